/- Part 1 of a proof; no conditions. -/
import Derived.WalkKit
import Derived.WalkSpells
import Derived.WalkLawsBesides
import Derived.Laws.CopyRow
import Derived.Deep.MidRow
import Derived.Deep.AppendSrc
import Derived.Deep.Slices
import Derived.Lib.ConvBytes
import Derived.Laws.MakeOwn
import Derived.Laws.BytesArg
import Derived.OpenShut
import Derived.Test.YtmmbidoldegemaaGreatDoorRows
import Derived.BigQuiet
import Derived.Lib.Hide
import Derived.DeepKeys
import Derived.Laws.StructEq
import Derived.StillTail
import Derived.Deep.LoopGhost
set_option linter.all false
set_option maxRecDepth 8000
set_option maxHeartbeats 8000000
namespace Go.Sl
open Go.RowKit
structure Ad where
 os:Os
 tape:Nat→Question→Nat
 output:Array (Nat×ByteArray)
 blk:Nat→Option Obj
structure Ad.Le (S S':Ad):Prop where
 os:S'.os=S.os
 tape:S'.tape=S.tape
 output:S'.output=S.output
 blk:∀ b o,S.blk b=some o→S'.blk b=some o
theorem Ad.Le.refl (S:Ad):S.Le S:=⟨rfl,rfl,rfl,fun _ _ h=>h⟩
theorem Ad.Le.trans {A B C:Ad} (h:A.Le B) (k:B.Le C):A.Le C :=
 ⟨k.os.trans h.os,k.tape.trans h.tape,k.output.trans h.output,fun b o e=>k.blk b o (h.blk b o e)⟩
def UD (w:World) (T:TypeId) (z:Nat) (v:Value) (n:Nat) (c:List Value):Prop :=
 c.length=n * z∧((v=.slice none 0 0∧n=0)∨∃ g cap cur fz,v=.slice (some ⟨g,0,none⟩) n cap∧w.heap[g]? = some (.cells cur T fz) ∧
  (∀ j,j < cur.size→¬ (fz.1≤j∧j < fz.2))∧n≤cap∧cap≤maxLen∧cap * z≤cur.size∧cur.toList.take (n * z)=c)
inductive J where
 | box (b:Nat) (c:List Value) (T:TypeId)
 | sl (v:Value) (T:TypeId) (z n:Nat) (c:List Value)
 | obj (b:Nat) (o:Obj)
def J.own:J→Option Nat
 | .box b _ _=>some b
 | .sl v _ _ _ _=>v.ownBlock
 | .obj b _=>some b
def J.at (w:World):J→Prop
 | .box b c T=>w.heap[b]? = some (.cells c.toArray T (0,0))
 | .sl v T z n c=>UD w T z v n c
 | .obj b o=>w.heap[b]? = some o
def J.apart (c d:J):Prop:=∀ b,c.own=some b→d.own=some b→False
structure St (S:Ad) (M:List J) (w:World):Prop where
 os:w.os=S.os
 tape:w.tape=S.tape
 output:w.output=S.output
 has:∀ b o,S.blk b=some o→w.heap[b]? = some o
 at_:∀ c∈M,c.at w
 out:∀ c∈M,∀ b,c.own=some b→S.blk b=none
 apart:M.Pairwise J.apart
theorem J.lt {c:J} {w} (h:c.at w):∀ b,c.own=some b→b < w.heap.size:=by
 intro b hb
 cases c with
 | box b' cs T =>
  obtain rfl:b'=b:=by simpa [J.own] using hb
  exact (Array.getElem?_eq_some_iff.1 h).1
 | sl v T z n cs =>
  rcases h.2 with ⟨rfl,_⟩|⟨g,cap,cur,fz,rfl,hg,_⟩
  ·simp [J.own,Value.ownBlock] at hb
  ·obtain rfl:g=b:=by simpa [J.own,Value.ownBlock] using hb
   exact (Array.getElem?_eq_some_iff.1 hg).1
 | obj b' o =>
  obtain rfl:b'=b:=by simpa [J.own] using hb
  exact (Array.getElem?_eq_some_iff.1 h).1
theorem J.at_of_block {c:J} {w w'} (h:c.at w) (hb:∀ b,c.own=some b→w'.heap[b]? = w.heap[b]?):c.at w':=by
 cases c with
 | box b cs T=>exact (hb b rfl).trans h
 | sl v T z n cs =>
  obtain ⟨h1,h2⟩:=h;refine ⟨h1,?_⟩;rcases h2 with h2|⟨g,cap,cur,fz,rfl,hh,r⟩
  ·exact Or.inl h2
  ·exact Or.inr ⟨g,cap,cur,fz,rfl,(hb g (by simp [J.own,Value.ownBlock])).trans hh,r⟩
 | obj b o=>exact (hb b rfl).trans h
theorem St.drop {S c M w} (h:St S (c::M) w):St S M w :=
 ⟨h.os,h.tape,h.output,h.has,fun d hd=>h.at_ d (.tail _ hd),fun d hd=>h.out d (.tail _ hd),(List.pairwise_cons.1 h.apart).2⟩
theorem J.apart_symm {c d:J} (h:c.apart d):d.apart c:=fun b h1 h2=>h b h2 h1
theorem St.perm {S M M' w} (p:M.Perm M') (h:St S M w):St S M' w :=
 ⟨h.os,h.tape,h.output,h.has,fun d hd=>h.at_ d (p.mem_iff.2 hd),fun d hd=>h.out d (p.mem_iff.2 hd),
  (p.pairwise_iff (fun {_ _}=>J.apart_symm)).1 h.apart⟩
theorem St.alloc {S M w} (h:St S M w) (c T):
  St S (.box w.heap.size c T::M) (w.alloc (.cells c.toArray T)):=by
 have old:∀ b,b < w.heap.size→(w.alloc (.cells c.toArray T)).heap[b]? = w.heap[b]?:=fun b hb=>Below.heap_alloc _ _ _ hb
 refine ⟨h.os,h.tape,h.output,fun b o e=>?_,fun d hd=>?_,fun d hd b hb=>?_,List.pairwise_cons.2 ⟨fun d hd b hb hd'=>?_,h.apart⟩⟩
 ·have:=h.has b o e;rw [old b (Array.getElem?_eq_some_iff.1 this).1];exact this
 ·rcases List.mem_cons.1 hd with rfl|hd
  ·exact heap_alloc_new w _
  ·exact J.at_of_block (h.at_ d hd) fun b hb=>old b (J.lt (h.at_ d hd) b hb)
 ·rcases List.mem_cons.1 hd with rfl|hd
  ·obtain rfl:w.heap.size=b:=by simpa [J.own] using hb
   cases e:S.blk w.heap.size with
   | none=>rfl
   | some o=>have:=(Array.getElem?_eq_some_iff.1 (h.has _ _ e)).1;omega
  ·exact h.out d hd b hb
 ·obtain rfl:w.heap.size=b:=by simpa [J.own] using hb
  have:=J.lt (h.at_ d hd) _ hd';omega
theorem St.drew {S M w} (h:St S M w):St S M w.drew :=
 ⟨h.os,h.tape,h.output,h.has,fun d hd=>J.at_of_block (h.at_ d hd) fun _ _=>rfl,h.out,h.apart⟩
theorem St.set {S M w w' c d} (h:St S (c::M) w) (hos:w'.os=w.os) (ht:w'.tape=w.tape) (ho:w'.output=w.output) (hd:d.at w') (hown:∀ b,d.own=some b→c.own=some b∨w.heap.size≤b) (hb:∀ b,b < w.heap.size→c.own≠some b→w'.heap[b]? = w.heap[b]?):St S (d::M) w':=by
 have hc:=h.at_ c (.head _);have hap:=List.pairwise_cons.1 h.apart;refine ⟨hos.trans h.os,ht.trans h.tape,ho.trans h.output,fun b o e=>?_,fun x hx=>?_,fun x hx b hxb=>?_,List.pairwise_cons.2 ⟨fun x hx b h1 h2=>?_,hap.2⟩⟩
 ·have:=h.has b o e;rw [hb b (Array.getElem?_eq_some_iff.1 this).1 (fun e'=>by rw [h.out c (.head _) b e'] at e;cases e)];exact this
 ·rcases List.mem_cons.1 hx with rfl|hx
  ·exact hd
  ·have hax:=h.at_ x (.tail _ hx);exact J.at_of_block hax fun b hxb=>hb b (J.lt hax b hxb) (fun e'=>hap.1 x hx b e' hxb)
 ·rcases List.mem_cons.1 hx with rfl|hx
  ·rcases hown b hxb with e|e
   ·exact h.out c (.head _) b e
   ·cases e':S.blk b with
    | none=>rfl
    | some o=>have:=(Array.getElem?_eq_some_iff.1 (h.has _ _ e')).1;omega
  ·exact h.out x (.tail _ hx) b hxb
 ·rcases hown b h1 with e|e
  ·exact hap.1 x hx b e h2
  ·have:=J.lt (h.at_ x (.tail _ hx)) b h2;omega
theorem St.lt {S M w} (h:St S M w) {b o} (e:S.blk b=some o):b < w.heap.size:=(Array.getElem?_eq_some_iff.1 (h.has b o e)).1
def Ad.with (S:Ad) (b:Nat) (o:Obj):Ad:={ S with blk:=fun k=>if k=b then some o else S.blk k }
theorem Ad.le_with {S:Ad} {b o} (h:S.blk b=none):S.Le (S.with b o) :=
 ⟨rfl,rfl,rfl,fun k x e=>by
  simp only [Ad.with];split
  ·subst_vars;rw [h] at e;cases e
  ·exact e⟩
theorem St.freeze_box {S M w b c T} (h:St S (.box b c T::M) w):
  S.Le (S.with b (.cells c.toArray T (0,0)))∧St (S.with b (.cells c.toArray T (0,0))) M w:=by
 have hn:=h.out (.box b c T) (.head _) b rfl;have hap:=List.pairwise_cons.1 h.apart;refine ⟨Ad.le_with hn,h.os,h.tape,h.output,fun k o e=>?_,fun d hd=>h.at_ d (.tail _ hd),fun d hd k hk=>?_,hap.2⟩
 ·simp only [Ad.with] at e;split at e
  ·rename_i hkb;rw [hkb];rw [← Option.some.inj e];exact h.at_ (.box b c T) (.head _)
  ·exact h.has k o e
 ·simp only [Ad.with];split
  ·rename_i hkb;rw [hkb] at hk;exact (hap.1 d hd _ rfl hk).elim
  ·exact h.out d (.tail _ hd) k hk
variable {P:Program}
def DU (agg:Bool) (cs:List Value):Value:=if agg then .agg cs.toArray else cs.headD undef
@[simp] theorem AB (cs):DU true cs=.agg cs.toArray:=rfl
@[simp] theorem Ap (v r):DU false (v::r)=v:=rfl
class Ty (P:Program) (T:TypeId) (agg:outParam Bool) (z:outParam Nat) (zero:outParam (List Value)) (by_:outParam Nat):Prop where
 agg_:(P.underlying T).map (fun d=>match d with|.struct _|.array _ _=>true|_=>false)=some agg
 info_:(P.info? T).map (fun i=>(i.zero,i.size,i.bytes))=some (some (DU agg zero),z,by_)
 len_:zero.length=z
 one_:zero.all (·.oneCell')=true
 cells_:(DU agg zero).cells.toList=zero
 z1_:agg=false→z=1
section
variable {T:TypeId} {agg:Bool} {z:Nat} {zero:List Value} {bb:Nat}
theorem Ty.run_isAgg (h:Ty P T agg z zero bb) (w):(isAgg T).run P w=.ok agg w:=by
 have:=h.agg_
 cases hu:P.underlying T with
 | none=>simp [hu] at this
 | some d =>
  rw [hu] at this;simp only [Option.map_some,Option.some.injEq] at this;unfold isAgg;rw [Sem.run_bind,run_underlying hu w]
  cases d<;>simp_all
theorem Ty.run_sizeOf (h:Ty P T agg z zero bb) (w):(sizeOf T).run P w=.ok z w:=by
 have:=h.info_
 cases hu:P.info? T with
 | none=>simp [hu] at this
 | some i=>simp [hu] at this;simp [sizeOf,typeInfo,hu,this]
theorem Ty.run_bytes (h:Ty P T agg z zero bb):∃ i,P.info? T=some i∧i.zero=some (DU agg zero)∧i.size=z∧i.bytes=bb:=by
 have:=h.info_
 cases hu:P.info? T with
 | none=>simp [hu] at this
 | some i=>simp [hu] at this;exact ⟨i,rfl,this⟩
theorem Ty.run_zero (h:Ty P T agg z zero bb) (w):(zeroValue T).run P w=.ok (DU agg zero) w:=by
 obtain ⟨i,h1,h2,_⟩:=h.run_bytes;simp [zeroValue,typeInfo,h1,h2]
theorem Ty.size_pos (h:Ty P T agg z zero bb):agg=false→z=1:=h.z1_
theorem Ka (h:Ty P T agg z zero bb) (w b o cs) (hc:w.rangeAt b o cs) (hl:cs.length=z):
  (Instr.loadAt T (.pointer (some ⟨b,o,none⟩))).run P w=.ok (DU agg cs) w:=by
 have hcl:(loadCells ⟨b,o,none⟩ cs.length).run P w=.ok cs.toArray w :=
  run_loadCells_list (P:=P) w ⟨b,o,none⟩ cs (fun j v hv=>by rw [Addr.add_mid];exact hc j v hv)
 cases agg with
 | true =>
  simp only [Instr.loadAt,Instr.sureAddr,Sem.run_bind,Sem.run_pure,Result.andThen_ok,loadVar,h.run_isAgg,h.run_sizeOf,if_true,← hl,hcl,AB]
 | false =>
  have hz:=h.size_pos rfl;obtain ⟨v,rfl⟩:∃ v,cs=[v]:=List.length_eq_one_iff.1 (by omega)
  have h0:=hc 0 v rfl
  have:(Go.load ⟨b,o,none⟩).run P w=.ok v w:=by
   simp only [Nat.add_zero] at h0;simp [Go.load,Sem.run,h0]
  simp only [Instr.loadAt,Instr.sureAddr,Sem.run_bind,Sem.run_pure,Result.andThen_ok,loadVar,h.run_isAgg,if_false,this,Ap,Bool.false_eq_true]
end
def AV:List Value→Nat→Value
 | [],_=>undef
 | v::_,0=>v
 | _::r,n+1=>AV r n
theorem EI (l n):AV l n=l.toArray.getD n undef:=by
 induction l generalizing n with
 | nil=>simp [AV]
 | cons v r ih =>
  cases n with
  | zero=>simp [AV]
  | succ n=>rw [AV,ih];simp
def Ai (l:List Value):Operand→Value
 | .tmp t=>AV l t
 | .const v=>v
 | .global g=>.pointer (some ⟨g,0,none⟩)
 | .func f=>.func (.func f) #[] #[]
theorem Di (l D):(⟨l.toArray,D⟩:Act).eval=Ai l:=by
 funext x
 cases x<;>simp [Act.eval,Ai,EI]
section
variable {ops:Array Oper} {rest:List Oper} {Q:Exit→Act→World→Prop} {l:List Value} {D:List Deferred} {w:World} {d:Tmp} {ty:TypeId} {pos:String} {af:Array Edge}
theorem BK {op:Op} {v:Value} {w':World} (hr:(execOp (Ai l) ⟨some d,op,ty,pos,af,none⟩).run P w=.ok (.value v) w')
  (h:wpList P ops Q rest ⟨(l.set d v).toArray,D⟩ w'):wpList P ops Q (⟨some d,op,ty,pos,af,none⟩::rest) ⟨l.toArray,D⟩ w:=by
 refine wpList_plain rfl fun K G=>?_
 unfold Oper.wp;rw [Di,hr];refine G _ _ ?_
 simpa [Act.put] using h
theorem I1 {op:Op} {w':World} (hr:(execOp (Ai l) ⟨none,op,ty,pos,af,none⟩).run P w=.ok .skip w')
  (h:wpList P ops Q rest ⟨l.toArray,D⟩ w'):wpList P ops Q (⟨none,op,ty,pos,af,none⟩::rest) ⟨l.toArray,D⟩ w:=by
 refine wpList_plain rfl fun K G=>?_
 unfold Oper.wp;rw [Di,hr];exact G _ _ h
variable {S:Ad} {M:List J}
theorem I5 {T:TypeId} {x:Operand} {v:Value} {cs:List Value} (V:St S M w) (hx:Ai l x=v) (hc:v.cells.toList=cs)
  (h:∀ b w',St S (.box b cs T::M) w'→wpList P ops Q rest ⟨(l.set d (.pointer (some ⟨b,0,none⟩))).toArray,D⟩ w') :
  wpList P ops Q (⟨some d,.box T x,ty,pos,af,none⟩::rest) ⟨l.toArray,D⟩ w:=by
 subst hc;refine BK (v:=.pointer (some ⟨w.heap.size,0,none⟩)) (w':=w.alloc (.cells v.cells T)) ?_ (h _ _ (V.alloc v.cells.toList T));simp only [execOp,Instr.box,newVar,newRow,newObj,hx];rfl
theorem BF {T:TypeId} {agg:Bool} {z:Nat} {zero:List Value} {bb:Nat} (V:St S M w) (hT:Ty P T agg z zero bb)
  (h:∀ b w',St S (.box b zero T::M) w'→wpList P ops Q rest ⟨(l.set d (.pointer (some ⟨b,0,none⟩))).toArray,D⟩ w') :
  wpList P ops Q (⟨some d,.alloc T,ty,pos,af,none⟩::rest) ⟨l.toArray,D⟩ w:=by
 have hcz:(DU agg zero).cells=zero.toArray:=by apply Array.ext';simpa using hT.cells_
 refine BK (v:=.pointer (some ⟨w.heap.size,0,none⟩)) (w':=w.alloc (.cells zero.toArray T)) ?_ (h _ _ (V.alloc zero T));simp only [execOp,Instr.alloc,Sem.run_bind,hT.run_zero,Result.andThen_ok,newVar,newRow,newObj,hcz];rfl
theorem St.get {k:Nat} {c} (V:St S M w) (hk:M[k]? = some c):c.at w:=V.at_ c (List.mem_of_getElem? hk)
theorem OR {b c B off z} (h:J.at w (.box b c B)):w.rangeAt b off ((c.drop off).take z):=by
 intro j v hv;rw [List.getElem?_take] at hv;split at hv
 ·rw [List.getElem?_drop] at hv;simp only [World.cell?,show w.heap[b]? = _ from h]
  simpa using hv
 ·cases hv
end
section
variable {ops:Array Oper} {rest:List Oper} {Q:Exit→Act→World→Prop} {l:List Value} {D:List Deferred} {w:World} {d:Tmp} {ty:TypeId} {pos:String} {af:Array Edge} {S:Ad} {M:List J}
theorem St.move {k c} (h:St S M w) (hk:M[k]? = some c):St S (c::M.eraseIdx k) w:=by
 refine h.perm ?_;have hlt:k < M.length:=(List.getElem?_eq_some_iff.1 hk).1;have hc:M[k]=c:=(List.getElem?_eq_some_iff.1 hk).2;rw [List.eraseIdx_eq_take_drop_succ];have:=List.perm_middle (a:=c) (l₁:=M.take k) (l₂:=M.drop (k+1));refine (List.Perm.of_eq ?_).trans this;rw [← hc,List.getElem_cons_drop,List.take_append_drop]
theorem St.back {k c d w'} (hk:M[k]? = some c) (h:St S (d::M.eraseIdx k) w'):St S (M.set k d) w':=by
 refine h.perm ?_;have hlt:k < M.length:=(List.getElem?_eq_some_iff.1 hk).1;rw [List.eraseIdx_eq_take_drop_succ];have:=List.perm_middle (a:=d) (l₁:=M.take k) (l₂:=M.drop (k+1));refine this.symm.trans (List.Perm.of_eq ?_);rw [List.set_eq_take_append_cons_drop,if_pos hlt]
theorem St.write {k b o c vs T} (h:St S M w) (hk:M[k]? = some (.box b c T)) (_hf:o+vs.length≤c.length):
  St S (M.set k (.box b (c.take o++vs++c.drop (o+vs.length)) T)) (w.setRow b (c.take o++vs++c.drop (o+vs.length)).toArray):=by
 have hm:=h.move hk;have hb:w.heap[b]? = some (.cells c.toArray T (0,0)):=hm.at_ _ (.head _);refine St.back hk (hm.set rfl rfl rfl ?_ (fun b' hb'=>.inl hb') (fun b' _ hne=>?_))
 ·exact setRow_heap w b _ _ T _ hb
 ·exact setRow_other w b b' _ (fun e=>hne (by simp [J.own,e]))
theorem PO {b o} {c vs:List Value} {T} (hb:w.heap[b]? = some (.cells c.toArray T (0,0))) (hf:o+vs.length≤c.length) (h1:∀ u∈vs,u.oneCell'=true):
  (storeCells ⟨b,o,none⟩ vs).run P w=.ok () (w.setRow b (c.take o++vs++c.drop (o+vs.length)).toArray):=by
 have:=run_storeCells_at P b o T vs 0 c.toArray w hb (by simpa using hf) h1
 simpa using this
theorem Ax {T:TypeId} {x y:Operand} {agg:Bool} {z:Nat} {zero:List Value} {bb:Nat} {b off:Nat} {c cs:List Value} {B:TypeId} {v:Value}
  (V:St S M w) (hx:Ai l x=.pointer (some ⟨b,off,none⟩)) (k:Nat) (hk:M[k]? = some (.box b c B)) (hT:Ty P T agg z zero bb)
  (hy:Ai l y=v) (hc:v.cells.toList=cs) (hl:cs.length=z) (h1:cs.all (·.oneCell')=true) (hf:off+z≤c.length)
  (h:∀ w',St S (M.set k (.box b (c.take off++cs++c.drop (off+z)) B)) w'→wpList P ops Q rest ⟨l.toArray,D⟩ w') :
  wpList P ops Q (⟨none,.store T x y,ty,pos,af,none⟩::rest) ⟨l.toArray,D⟩ w:=by
 subst hl;have hb:w.heap[b]? = some (.cells c.toArray B (0,0)):=V.get hk;refine I1 (w':=w.setRow b (c.take off++cs++c.drop (off+cs.length)).toArray) ?_ (h _ (V.write hk hf));have hsz:v.cells.size=cs.length:=by rw [← hc];simp
 simp only [execOp,hx,hy,Instr.storeAt,Instr.sureAddr,Sem.run_bind,Sem.run_pure,Result.andThen_ok,storeVar,hT.run_sizeOf,hsz,ne_eq,not_true_eq_false,if_false];rw [hc,PO hb hf (fun u hu=>List.all_eq_true.1 h1 u hu)];rfl
class Z (α:Type) where
 z:Nat
 agg:Bool
 R:Ad→List Value→α→Prop
 mono:∀ {S S':Ad} {cs:List Value} {x:α},S.Le S'→R S cs x→R S' cs x
 len:∀ {S:Ad} {cs:List Value} {x:α},R S cs x→cs.length=z
 one:∀ {S:Ad} {cs:List Value} {x:α},R S cs x→∀ u∈cs,u.oneCell'=true
 z1:agg=false→z=1
variable {α:Type} [Z α]
def Rv (S:Ad) (v:Value) (x:α):Prop:=∃ cs,v=DU (Z.agg α) cs∧Z.R S cs x
def Pt (S:Ad) (p:Value) (x:α):Prop:=∃ b o c T fz,p=.pointer (some ⟨b,o,none⟩)∧S.blk b=some (.cells c T fz)∧Z.R S ((c.toList.drop o).take (Z.z α)) x
def RL (S:Ad) (c:List Value) (xs:List α):Prop:=c.length=xs.length * Z.z α∧∀ i x,xs[i]? = some x→Z.R S ((c.drop (i * Z.z α)).take (Z.z α)) x
def RSl (S:Ad) (v:Value) (xs:List α):Prop :=
 (∃ ad cap,v=.slice ad 0 cap∧xs=[]∧cap≤maxLen)∨∃ b o cap c T fz,v=.slice (some ⟨b,o,none⟩) xs.length cap∧S.blk b=some (.cells c T fz)∧xs.length≤cap∧cap≤maxLen∧RL S ((c.toList.drop o).take (xs.length * Z.z α)) xs
theorem Rv.mono {S' v} {x:α} (hS:S.Le S') (h:Rv S v x):Rv S' v x:=let ⟨cs,a,b⟩:=h;⟨cs,a,Z.mono hS b⟩
theorem Pt.mono {S' v} {x:α} (hS:S.Le S') (h:Pt S v x):Pt S' v x:=let ⟨b,o,c,T,fz,h1,h2,h3⟩:=h;⟨b,o,c,T,fz,h1,hS.blk _ _ h2,Z.mono hS h3⟩
theorem RL.mono {S' c} {xs:List α} (hS:S.Le S') (h:RL S c xs):RL S' c xs:=⟨h.1,fun i x hx=>Z.mono hS (h.2 i x hx)⟩
theorem RSl.mono {S' v} {xs:List α} (hS:S.Le S') (h:RSl S v xs):RSl S' v xs :=
 h.imp id fun ⟨b,o,cap,c,T,fz,h1,h2,h3,h4,h5⟩=>⟨b,o,cap,c,T,fz,h1,hS.blk _ _ h2,h3,h4,h5.mono hS⟩
theorem RL.one {c} {xs:List α} (h:RL S c xs):∀ u∈c,u.oneCell'=true:=by
 intro u hu;obtain ⟨j,hj,rfl⟩:=List.mem_iff_getElem.1 hu
 have hz:0 < Z.z α:=by
  rcases Nat.eq_zero_or_pos (Z.z α) with e|e
  ·have:=h.1;rw [e] at this;simp at this;subst this;simp at hj
  ·exact e
 have hi:j / Z.z α < xs.length:=by rw [Nat.div_lt_iff_lt_mul hz,← h.1];exact hj
 have:=Z.one (h.2 (j / Z.z α) _ (List.getElem?_eq_getElem hi));refine this _ (List.mem_iff_getElem?.2 ⟨j % Z.z α,?_⟩);rw [List.getElem?_take,if_pos (Nat.mod_lt _ hz),List.getElem?_drop,Nat.div_add_mod',List.getElem?_eq_getElem hj]
theorem RL.nil:RL S [] ([]:List α):=⟨by simp,fun i x h=>by simp at h⟩
theorem RL.append {c c'} {xs ys:List α} (h:RL S c xs) (h':RL S c' ys):RL S (c++c') (xs++ys):=by
 refine ⟨by simp [h.1,h'.1,Nat.add_mul],fun i x hx=>?_⟩;rcases Nat.lt_or_ge i xs.length with hi|hi
 ·rw [List.getElem?_append_left hi] at hx;have hle:i * Z.z α+Z.z α≤c.length:=by rw [h.1,← Nat.succ_mul];exact Nat.mul_le_mul_right _ hi
  rw [List.drop_append_of_le_length (by omega),List.take_append_of_le_length (by simp;omega)];exact h.2 i x hx
 ·rw [List.getElem?_append_right hi] at hx;have e:i * Z.z α=c.length+(i - xs.length) * Z.z α:=by rw [h.1,← Nat.add_mul];congr 1;omega
  rw [e,List.drop_append,List.drop_of_length_le (by omega),List.nil_append,show c.length+(i - xs.length) * Z.z α - c.length=(i - xs.length) * Z.z α from by omega];exact h'.2 _ x hx
theorem RL.one_mk {cs} {x:α} (h:Z.R S cs x):RL S cs [x]:=by
 refine ⟨by simp [Z.len h],fun i y hy=>?_⟩
 match i,hy with
 | 0,hy=>simp at hy;subst hy;rw [Nat.zero_mul,List.drop_zero,List.take_of_length_le (by rw [Z.len h];exact Nat.le_refl _)];exact h
 | i+1,hy=>simp at hy
theorem RL.sub {c} {xs:List α} (h:RL S c xs) (i n) (hin:i+n≤xs.length):RL S ((c.drop (i * Z.z α)).take (n * Z.z α)) ((xs.drop i).take n):=by
 have hl:=h.1;have hb:i * Z.z α+n * Z.z α≤xs.length * Z.z α:=by rw [← Nat.add_mul];exact Nat.mul_le_mul_right _ hin
 refine ⟨by simp only [List.length_take,List.length_drop,hl];rw [Nat.min_eq_left (by omega),Nat.min_eq_left (by omega)],fun j x hx=>?_⟩;rw [List.getElem?_take] at hx;split at hx
 ·rename_i hj;rw [List.getElem?_drop] at hx;have h2:=h.2 _ x hx;have hjz:j * Z.z α+Z.z α≤n * Z.z α:=by rw [← Nat.succ_mul];exact Nat.mul_le_mul_right _ hj
  rw [List.drop_take,List.take_take,Nat.min_eq_left (by omega),List.drop_drop,← Nat.add_mul];exact h2
 ·cases hx
theorem RL.at_ {c} {xs:List α} (h:RL S c xs) (i) (hi:i < xs.length):Z.R S ((c.drop (i * Z.z α)).take (Z.z α)) xs[i]:=h.2 i _ (List.getElem?_eq_getElem hi)
instance ig:Z (List α) where
 z:=1
 agg:=false
 R S cs x:=∃ v,cs=[v]∧RSl S v x
 mono hS h:=let ⟨v,h1,h2⟩:=h;⟨v,h1,h2.mono hS⟩
 len h:=let ⟨v,h1,_⟩:=h;by rw [h1];rfl
 one h:=by
  obtain ⟨v,rfl,h2⟩:=h;intro u hu;obtain rfl:u=v:=by simpa using hu
  rcases h2 with ⟨ad,cap,rfl,_⟩|⟨b,o,cap,c,T,fz,rfl,_⟩<;>rfl
 z1 _:=rfl
def Au (n:Int):Prop:=-9223372036854775808≤n∧n≤9223372036854775807
instance iU:Z Int where
 z:=1
 agg:=false
 R _ cs x:=cs=[.int .i64 x]∧Au x
 mono _ h:=h
 len h:=by rw [h.1];rfl
 one h:=by rw [h.1];intro u hu;simp at hu;subst hu;rfl
 z1 _:=rfl
instance jk:Z UInt8 where
 z:=1
 agg:=false
 R _ cs x:=cs=[.int .u8 x.toNat]
 mono _ h:=h
 len h:=by rw [h];rfl
 one h:=by rw [h];intro u hu;simp at hu;subst hu;rfl
 z1 _:=rfl
structure Cv where
 b:List UInt8
 deriving DecidableEq
instance iT:Z Cv where
 z:=1
 agg:=false
 R _ cs x:=cs=[.string ⟨x.b.toArray⟩]∧x.b.length≤maxLen
 mono _ h:=h
 len h:=by rw [h.1];rfl
 one h:=by rw [h.1];intro u hu;simp at hu;subst hu;rfl
 z1 _:=rfl
class SlT (P:Program) (T:TypeId) (E:outParam TypeId):Prop where
 u:P.underlying T=some (.slice E)
theorem Kf {b o n c T fz} (h:w.heap[b]? = some (.cells c T fz)):w.rangeAt b o ((c.toList.drop o).take n):=by
 intro j v hv;rw [List.getElem?_take] at hv;split at hv
 ·rw [List.getElem?_drop] at hv;simp only [World.cell?,h]
  simpa using hv
 ·cases hv
end
variable {P:Program}
section
variable {ops:Array Oper} {rest:List Oper} {Q:Exit→Act→World→Prop} {l:List Value} {D:List Deferred} {w:World} {d:Tmp} {ty:TypeId} {pos:String} {af:Array Edge} {S:Ad} {M:List J}
theorem guard_yes {dst:Option Tmp} {op:Op} {g:Nat×Bool} {a:Act} (hg:yielded ops a.tmps g.1=some g.2)
  (h:wpList P ops Q (⟨dst,op,ty,pos,af,none⟩::rest) a w):wpList P ops Q (⟨dst,op,ty,pos,af,some g⟩::rest) a w:=by
 unfold wpList at h ⊢;rw [if_pos (by simp [Region.wanted,hg])];rw [if_pos (by simp [Region.wanted])] at h;exact h
theorem guard_no {dst:Option Tmp} {op:Op} {g:Nat×Bool} (hg:(yielded ops l.toArray g.1 == some g.2)=false)
  (h:wpList P ops Q rest ⟨(match dst with|some t=>l.set t undef|none=>l).toArray,D⟩ w):wpList P ops Q (⟨dst,op,ty,pos,af,some g⟩::rest) ⟨l.toArray,D⟩ w:=by
 refine wpList_skip (by simpa [Region.wanted] using hg) ?_
 cases dst<;>simpa [Act.put] using h
theorem guard_cases {dst:Option Tmp} {op:Op} {j:Nat} {want t:Bool} (hy:yielded ops l.toArray j=some t)
  (h1:t=want→wpList P ops Q (⟨dst,op,ty,pos,af,none⟩::rest) ⟨l.toArray,D⟩ w)
  (h2:t = !want→wpList P ops Q rest ⟨(match dst with|some t=>l.set t undef|none=>l).toArray,D⟩ w):wpList P ops Q (⟨dst,op,ty,pos,af,some (j,want)⟩::rest) ⟨l.toArray,D⟩ w:=by
 by_cases e:t=want
 ·exact guard_yes (by rw [hy,e]) (h1 e)
 ·refine guard_no (by rw [hy];simpa using e) (h2 (by cases t<;>cases want<;>simp_all))
def R9:Op→Bool
 | .move _|.assign _|.pick .. | .binOp .. | .unOp .. | .convert .. | .build .. | .extract .. | .index .. | .field .. | .makeFunc .. | .makeInterface .. | .nilCheck ..=>true
 | _=>false
theorem gate {o a} (_h:R9 o.op=true) (g:wpList P ops Q (o::rest) a w):wpList P ops Q (o::rest) a w:=g
variable {α β γ:Type} [Z α] [Z β] [Z γ]
instance ic:Z Unit where
 z:=0
 agg:=true
 R _ cs _:=cs=[]
 mono _ h:=h
 len h:=by rw [h];rfl
 one h:=by rw [h];intro u hu;simp at hu
 z1 h:=by cases h
instance ie:Z (α×β) where
 z:=Z.z α+Z.z β
 agg:=true
 R S cs x:=cs.length=Z.z α+Z.z β∧Z.R S (cs.take (Z.z α)) x.1∧Z.R S (cs.drop (Z.z α)) x.2
 mono hS h:=⟨h.1,Z.mono hS h.2.1,Z.mono hS h.2.2⟩
 len h:=h.1
 one h:=by
  intro u hu;rename_i cs x;rw [← List.take_append_drop (Z.z α) cs] at hu;rcases List.mem_append.1 hu with hu|hu
  ·exact Z.one h.2.1 u hu
  ·exact Z.one h.2.2 u hu
 z1 h:=by cases h
theorem AG {cs cs'} {x:α} {y:β} (h:Z.R S cs x) (h':Z.R S cs' y):Z.R S (cs++cs') (x,y):=by
 have e:=Z.len h;refine ⟨by rw [List.length_append,e,Z.len h'],?_,?_⟩
 ·rw [← e,List.take_left];exact h
 ·rw [← e,List.drop_left];exact h'
theorem CM:Z.R S [] ():=rfl
class HasF (α:Type) [Z α] (k:Nat) (β:outParam Type) [outParam (Z β)] (off:outParam Nat) (get:outParam (α→β)) (put:outParam (α→β→α)):Prop where
 le:off+Z.z β≤Z.z α
 rd:∀ {S:Ad} {cs:List Value} {x:α},Z.R S cs x→Z.R S ((cs.drop off).take (Z.z β)) (get x)
 wr:∀ {S:Ad} {cs vs:List Value} {x:α} {y:β},Z.R S cs x→Z.R S vs y→Z.R S (cs.take off++vs++cs.drop (off+Z.z β)) (put x y)
instance jn:HasF (α×β) 0 α 0 (fun x=>x.1) (fun x y=>(y,x.2)) where
 le:=by show 0+Z.z α≤Z.z α+Z.z β;omega
 rd h:=by simpa using h.2.1
 wr h h':=by simpa using AG h' h.2.2
instance jm {k off:Nat} {get:β→γ} {put:β→γ→β} [inst:HasF β k γ off get put]:HasF (α×β) (k+1) γ (Z.z α+off) (fun x=>get x.2) (fun x y=>(x.1,put x.2 y)) where
 le:=by have:=inst.le;show Z.z α+off+Z.z γ≤Z.z α+Z.z β;omega
 rd h:=by
  have:=inst.rd h.2.2;rwa [List.drop_drop] at this
 wr h h':=by
  rename_i S cs vs x y;have h2:=inst.wr h.2.2 h';have h1:Z.R S (cs.take (Z.z α)) x.1:=h.2.1;have:=AG h1 h2;have hl:cs.length=Z.z α+Z.z β:=h.1
  have e:cs.take (Z.z α+off)++vs++cs.drop (Z.z α+off+Z.z γ)=cs.take (Z.z α)++((cs.drop (Z.z α)).take off++vs++(cs.drop (Z.z α)).drop (off+Z.z γ)):=by
   rw [List.take_add,List.drop_drop,← Nat.add_assoc];simp only [List.append_assoc]
  rw [e];exact this
structure H7 (α:Type) (n:Nat) where
 l:List α
 deriving DecidableEq
instance iV {n:Nat}:Z (H7 α n) where
 z:=n * Z.z α
 agg:=true
 R S cs x:=x.l.length=n∧RL S cs x.l
 mono hS h:=⟨h.1,h.2.mono hS⟩
 len h:=by rw [h.2.1,h.1]
 one h:=h.2.one
 z1 h:=by cases h
def Wx (P:Program) (T:TypeId) (k:Nat):Option Nat :=
 match P.underlying T with
 | some (.struct fs)=>match fs[k]? with
  | some f=>match (P.info? f.type).map (·.size) with
   | some (_+1)=>some f.offset
   | _=>none
  | none=>none
 | _=>none
class FldT (P:Program) (T:TypeId) (k:Nat) (off:outParam Nat):Prop where
 ok:Wx P T k=some off
theorem Rm {T k off} (h:FldT P T k off) (b o):(Instr.fieldAt T (.pointer (some ⟨b,o,none⟩)) k).run P w=.ok (.pointer (some ⟨b,o+off,none⟩)) w:=by
 have hk:=h.ok;unfold Wx at hk;split at hk
 ·rename_i fs h1;split at hk
  ·rename_i f h2;split at hk
   ·rename_i m h3;cases hk
    cases hi:P.info? f.type with
    | none=>simp [hi] at h3
    | some i =>
     have h4:i.size≠0:=by simp [hi] at h3;omega
     simp [Instr.fieldAt,run_underlying h1,h2,Instr.sureAddr,fieldPlace,sizeOf,typeInfo,hi,h4,Addr.add_mid]
   ·cases hk
  ·cases hk
 ·cases hk
theorem Pt.field {k off get put} [i:HasF α k β off get put] {b o x} (h:Pt S (.pointer (some ⟨b,o,none⟩)) x):
  Pt S (.pointer (some ⟨b,o+off,none⟩)) (get x):=by
 obtain ⟨b',o',c,T,fz,h1,h2,h3⟩:=h;simp only [Value.pointer.injEq,Option.some.injEq,Addr.mk.injEq,and_true] at h1;obtain ⟨rfl,rfl⟩:=h1;refine ⟨b,_,c,T,fz,rfl,h2,?_⟩;have:=i.rd h3;rw [List.drop_take,List.take_take,List.drop_drop,Nat.min_eq_left (by have:=i.le;omega)] at this;exact this
class ArrT (P:Program) (T:TypeId) (n:outParam Nat) (E:outParam TypeId):Prop where
 u:P.underlying T=some (.array n E)
end
variable {P:Program}
section
variable {ops:Array Oper} {rest:List Oper} {Q:Exit→Act→World→Prop} {l:List Value} {D:List Deferred} {w:World} {d:Tmp} {ty:TypeId} {pos:String} {af:Array Edge} {S:Ad} {M:List J}
variable {α:Type} [Z α]
theorem EG (b:Nat):∀ (vs:List Value) (o:Nat) (w:World) (k:Nat),k≠b→(w.setCells b o vs).heap[k]? = w.heap[k]?
 | [],_,_,_,_=>rfl
 | v::r,o,w,k,h=>by rw [World.setCells,EG b r (o+1) _ k h,Below.heap_setCell _ _ _ _ h]
theorem EF (b:Nat):∀ (vs:List Value) (o:Nat) (w:World),(w.setCells b o vs).os=w.os∧(w.setCells b o vs).tape=w.tape∧(w.setCells b o vs).output=w.output
 | [],_,_=>⟨rfl,rfl,rfl⟩
 | v::r,o,w=>by rw [World.setCells];exact EF b r (o+1) _
theorem FR (b:Nat) (T:TypeId) (fz:Nat×Nat):∀ (vs:List Value) (o:Nat) (w:World) (cur:List Value),w.heap[b]? = some (.cells cur.toArray T fz)→o+vs.length≤cur.length →
  (w.setCells b o vs).heap[b]? = some (.cells (cur.take o++vs++cur.drop (o+vs.length)).toArray T fz)
 | [],o,w,cur,h,_=>by simp only [World.setCells,List.append_nil,List.length_nil,Nat.add_zero,List.take_append_drop];exact h
 | v::r,o,w,cur,h,hl=>by
  simp only [List.length_cons] at hl
  have h1:(w.setCell ⟨b,o,none⟩ v).heap[b]? = some (.cells (cur.set o v).toArray T fz):=by
   have hlt:=(Array.getElem?_eq_some_iff.1 h).1;have hv:=(Array.getElem?_eq_some_iff.1 h).2;simp only [World.setCell];rw [Array.getElem?_modify,if_pos rfl,h];simp
  rw [World.setCells,FR b T fz r (o+1) _ (cur.set o v) h1 (by simp;omega)]
  congr 3
  have ho:o < cur.length:=by omega
  rw [List.set_eq_take_append_cons_drop,if_pos ho];have hlt:(cur.take o).length=o:=by simp;omega
  rw [show (cur.take o++v::cur.drop (o+1)).take (o+1)=cur.take o++[v] from by
   rw [List.take_append,hlt,List.take_of_length_le (by omega),show o+1 - o=1 from by omega];simp]
  rw [show (cur.take o++v::cur.drop (o+1)).drop (o+1+r.length)=cur.drop (o+(r.length+1)) from by
   rw [List.drop_append,hlt,List.drop_of_length_le (by omega),show o+1+r.length - o=r.length+1 from by omega];simp only [List.nil_append,List.drop_succ_cons,List.drop_drop]
   congr 1;omega]
  simp
theorem UD.nil (w T z):UD w T z (.slice none 0 0) 0 []:=⟨by simp,.inl ⟨rfl,rfl⟩⟩
theorem St.nil (h:St S M w) (T z):St S (.sl (.slice none 0 0) T z 0 []::M) w :=
 ⟨h.os,h.tape,h.output,h.has,fun d hd=>by
  rcases List.mem_cons.1 hd with rfl|hd
  ·exact UD.nil w T z
  ·exact h.at_ d hd,fun d hd b hb=>by
  rcases List.mem_cons.1 hd with rfl|hd
  ·simp [J.own,Value.ownBlock] at hb
  ·exact h.out d hd b hb,List.pairwise_cons.2 ⟨fun d _ b hb=>by simp [J.own,Value.ownBlock] at hb,h.apart⟩⟩
theorem St.new_sl {n cap z c T fz cur w'} (h:St S M w) (hos:w'.os=w.os) (hta:w'.tape=w.tape) (hou:w'.output=w.output) (old:∀ b,b < w.heap.size→w'.heap[b]? = w.heap[b]?) (hnew:w'.heap[w.heap.size]? = some (.cells cur T fz)) (hc:c.length=n * z) (hfz:∀ j,j < cur.size→¬ (fz.1≤j∧j < fz.2)) (hn:n≤cap) (hm:cap≤maxLen) (hs:cap * z≤cur.size) (ht:cur.toList.take (n * z)=c):St S (.sl (.slice (some ⟨w.heap.size,0,none⟩) n cap) T z n c::M) w':=by
 refine ⟨hos.trans h.os,hta.trans h.tape,hou.trans h.output,fun b o e=>?_,fun d hd=>?_,fun d hd b hb=>?_,List.pairwise_cons.2 ⟨fun d hd b hb hd'=>?_,h.apart⟩⟩
 ·have:=h.has b o e;rw [old b (Array.getElem?_eq_some_iff.1 this).1];exact this
 ·rcases List.mem_cons.1 hd with rfl|hd
  ·exact ⟨hc,.inr ⟨_,cap,cur,fz,rfl,hnew,hfz,hn,hm,hs,ht⟩⟩
  ·exact J.at_of_block (h.at_ d hd) fun b hb=>old b (J.lt (h.at_ d hd) b hb)
 ·rcases List.mem_cons.1 hd with rfl|hd
  ·obtain rfl:w.heap.size=b:=by simpa [J.own,Value.ownBlock] using hb
   cases e:S.blk w.heap.size with
   | none=>rfl
   | some o=>have:=(Array.getElem?_eq_some_iff.1 (h.has _ _ e)).1;omega
  ·exact h.out d hd b hb
 ·obtain rfl:w.heap.size=b:=by simpa [J.own,Value.ownBlock] using hb
  have:=J.lt (h.at_ d hd) _ hd';omega
theorem St.alloc_sl {n cap z c T fz cur} (h:St S M w) (hc:c.length=n * z) (hfz:∀ j,j < cur.size→¬ (fz.1≤j∧j < fz.2)) (hn:n≤cap) (hm:cap≤maxLen) (hs:cap * z≤cur.size) (ht:cur.toList.take (n * z)=c):St S (.sl (.slice (some ⟨w.heap.size,0,none⟩) n cap) T z n c::M) (w.alloc (.cells cur T fz)) :=
 h.new_sl rfl rfl rfl (fun _ hb=>Below.heap_alloc _ _ _ hb) (heap_alloc_new w _) hc hfz hn hm hs ht
theorem St.freeze {v T} {xs:List α} {c n} (h:St S (.sl v T (Z.z α) n c::M) w) (hc:RL S c xs) (hn:n=xs.length):
  ∃ S',S.Le S'∧St S' M w∧RSl S' v xs:=by
 subst hn;have h0:=h.at_ _ (.head _);have hap:=List.pairwise_cons.1 h.apart;rcases h0.2 with ⟨rfl,hn⟩|⟨g,cap,cur,fz,rfl,hg,hfz,hnc,hm,hs,ht⟩
 ·exact ⟨S,Ad.Le.refl S,h.drop,.inl ⟨none,0,rfl,List.eq_nil_of_length_eq_zero hn,by simp [maxLen]⟩⟩
 ·have hn:=h.out _ (.head _) g (by simp [J.own,Value.ownBlock]);have hle:S.Le (S.with g (.cells cur T fz)):=Ad.le_with hn;refine ⟨S.with g (.cells cur T fz),hle,⟨h.os,h.tape,h.output,fun k o e=>?_,fun d hd=>h.at_ d (.tail _ hd),fun d hd k hk=>?_,hap.2⟩,.inr ⟨g,0,cap,cur,T,fz,rfl,by simp [Ad.with],hnc,hm,?_⟩⟩
  ·simp only [Ad.with] at e;split at e
   ·rename_i hkb;rw [hkb];rw [← Option.some.inj e];exact hg
   ·exact h.has k o e
  ·simp only [Ad.with];split
   ·rename_i hkb;rw [hkb] at hk;exact (hap.1 d hd g (by simp [J.own,Value.ownBlock]) hk).elim
   ·exact h.out d (.tail _ hd) k hk
  ·rw [List.drop_zero,ht];exact hc.mono hle
theorem Kc {k v x t tx ty E agg z n m zero c news bb} (V:St S M w) (hk:M[k]? = some (.sl v E z n c)) (hT:SlT P t E) (hE:Ty P E agg z zero bb) (hs:Src P z tx x m news w) (hb:(n+m) * bb≤140737488355328) (hm:n+m≤140737488355328) (_hz:0 < z):
  ∃ v' w',(Builtin.append_ #[t,tx] ty #[v,x]).run P w=.ok v' w'∧St S (M.set k (.sl v' E z (n+m) (c++news))) w':=by
 obtain ⟨i,hi,hiz,his,hib⟩:=hE.run_bytes;have hmv:=V.move hk;have h0:=hmv.at_ _ (.head _);have hcl:(c++news).length=(n+m) * z:=by rw [List.length_append,h0.1,hs.newsLen,Nat.add_mul]
 have hzero:(DU agg zero).cells.size=z:=by rw [← hE.len_,← Array.length_toList,hE.cells_]
 have hzcs:∀ q,(Builtin.zeroCells (DU agg zero).cells q).size=q * z:=fun q=>by rw [size_zeroCells,hzero]
 have grow:∀ (base:Option Addr) (cap:Nat),(Builtin.firstCells i.size n (.slice base n cap)).run P w.drew=.ok c.toArray w.drew→cap < n+m→v=.slice base n cap →
   ∃ v' w',(Builtin.append_ #[t,tx] ty #[v,x]).run P w=.ok v' w'∧St S (M.set k (.sl v' E z (n+m) (c++news))) w':=by
  intro base cap hold hg hv;have hfit:=growslice_fits (need:=n+m) (old:=cap) (bytes:=i.bytes) hg (by rw [hib];exact hb);have hr:=run_append_grow_src (P:=P) w t tx ty E i (DU agg zero) hT.u hi hiz base n cap c hold x m news (his▸hs) hg (by omega) hfit;subst hv;refine ⟨_,_,hr,?_⟩;have hge:=grownCap_ge w (n+m) cap E;have hcm:=grownCap_le_maxLen w (n+m) cap E (by simp only [maxLen];omega)
  have hal:=(St.drew (hmv.drop)).alloc_sl (n:=n+m) (cap:=grownCap w (n+m) cap E) (z:=z) (c:=c++news) (T:=E) (fz:=(0,0))
   (cur:=(c++news).toArray++Builtin.zeroCells (DU agg zero).cells (grownCap w (n+m) cap E - (n+m))) hcl (fun j _=>by simp) hge hcm
   (by simp only [Array.size_append,List.size_toArray,hcl,hzcs,← Nat.add_mul];exact Nat.mul_le_mul_right _ (by omega))
   (by rw [Array.toList_append,List.take_append,List.take_of_length_le (by simp [hcl])];simp [hcl])
  exact St.back hk hal
 rcases h0.2 with ⟨rfl,rfl⟩|⟨g,cap,cur,fz,rfl,hg,hfz,hnc,hcm,hcs,htk⟩
 ·have hc0:c=[]:=List.eq_nil_of_length_eq_zero (by simpa using h0.1);subst hc0;by_cases hm0:m=0
  ·subst hm0;have hnews:news=[]:=List.eq_nil_of_length_eq_zero (by simpa using hs.newsLen);subst hnews;refine ⟨.slice none 0 0,w,?_,?_⟩
   ·have hcells:=hs.cells;rcases hs.kind with ⟨e',hkk⟩|hkk<;>simp [Builtin.append_,run_underlying hT.u,run_underlying hkk,sizeOf,typeInfo,hi,his,hs.len,hcells]
   ·exact St.back hk (by simpa using hmv)
  ·exact grow none 0 (by rw [run_firstCells_none]) (by omega) rfl
 ·by_cases hroom:n+m≤cap
  ·have hfit:n * z+news.length≤cur.size:=by rw [hs.newsLen,← Nat.add_mul];exact Nat.le_trans (Nat.mul_le_mul_right _ hroom) hcs
   have hcell:∀ j,j < news.length→(w.cell? ⟨g,n * z+j,none⟩).isSome=true:=fun j hj=>by
    have hlt:n * z+j < cur.size:=by omega
    simp only [World.cell?,hg];simp [hlt]
   have hfro:∀ j,j < news.length→w.frozen? ⟨g,n * z+j,none⟩=false:=fun j hj=>by
    have:=hfz (n * z+j) (by omega);simp only [World.frozen?,hg]
    simpa using this
   have hr:=run_append_room_src (P:=P) w t tx ty E i hT.u hi g 0 n cap x m news (his▸hs) hroom (by simpa [his] using hcell) (by simpa [his] using hfro);refine ⟨_,_,hr,?_⟩;have hat:=FR g E fz news (n * z) w cur.toList (by simpa using hg) (by simpa using hfit);obtain ⟨e1,e2,e3⟩:=EF g news (n * z) w;rw [Nat.zero_add,his];refine St.back hk (hmv.set e1 e2 e3 ⟨hcl,.inr ⟨g,cap,_,fz,rfl,hat,?_,hroom,hcm,?_,?_⟩⟩ (fun b hb=>.inl hb) (fun b _ hne=>EG g news _ w b (fun e=>hne (by simp [J.own,Value.ownBlock,e]))))
   ·intro j hj;refine hfz j ?_;simp only [List.size_toArray,List.length_append,List.length_take,List.length_drop,Array.length_toList] at hj;omega
   ·simp only [List.size_toArray,List.length_append,List.length_take,List.length_drop,Array.length_toList];omega
   ·simp only [];rw [htk,List.append_assoc,← List.append_assoc,Nat.add_mul,← hs.newsLen];rw [List.take_append,List.take_of_length_le (by simp [h0.1])];simp [h0.1]
  ·refine grow (some ⟨g,0,none⟩) cap ?_ (by omega) rfl;refine run_firstCells_some w.drew i.size n ⟨g,0,none⟩ n cap c (by rw [his];exact h0.1) (fun j u hu=>?_);rw [Addr.add_mid,Nat.zero_add];simp only [World.cell?,show w.drew.heap[g]? = w.heap[g]? from rfl,hg];rw [← htk,List.getElem?_take] at hu;split at hu
   ·simpa using hu
   ·cases hu
theorem Src.own {j:Nat} {v T tx e' z n c} (V:St S M w) (hj:M[j]? = some (.sl v T z n c)) (h1:∀ u∈c,u.oneCell'=true) (hk:P.underlying tx=some (.slice e')):Src P z tx v n c w:=by
 have h:=V.get hj;rcases h.2 with ⟨rfl,rfl⟩|⟨g,cap,cur,fz,rfl,hg,hfz,hnc,hcm,hcs,htk⟩
 ·obtain rfl:c=[]:=List.eq_nil_of_length_eq_zero (by simpa using h.1);exact Src.ofNil w hk 0
 ·refine Src.ofSlice w hk _ _ _ _ h.1 (fun j u hu=>?_) h1;rw [Addr.add_mid,Nat.zero_add];simp only [World.cell?,hg];rw [← htk,List.getElem?_take] at hu;split at hu
  ·simpa using hu
  ·cases hu
theorem Src.data {v} {xs:List α} {tx e'} (V:St S M w) (hv:RSl S v xs) (hk:P.underlying tx=some (.slice e')):∃ c,Src P (Z.z α) tx v xs.length c w∧RL S c xs:=by
 rcases hv with ⟨ad,cap,rfl,rfl,_⟩|⟨b,o,cap,c,T,fz,rfl,hb,hc,hm,hRL⟩
 ·refine ⟨[],?_,RL.nil⟩
  cases ad with
  | none=>exact Src.ofNil w hk cap
  | some ad=>exact Src.ofSlice w hk ad 0 cap [] (by simp) (fun j u hu=>by simp at hu) (fun u hu=>by simp at hu)
 ·refine ⟨_,Src.ofSlice w hk _ _ _ _ hRL.1 (fun j u hu=>?_) hRL.one,hRL⟩;rw [Addr.add_mid];exact Kf (V.has _ _ hb) j u hu
theorem AF {k j:Nat} {x y:Operand} {v u:Value} {t tx E e' F:TypeId} {agg:Bool} {z n m:Nat} {zero c c':List Value} {bb:Nat} (V:St S M w) (hx:Ai l x=v) (hy:Ai l y=u) (hk:M[k]? = some (.sl v E z n c)) (hj:M[j]? = some (.sl u F z m c'))
  (hT:SlT P t E) (hE:Ty P E agg z zero bb) (hU:SlT P tx e') (h1:∀ q∈c',q.oneCell'=true) (hb:(n+m) * bb≤140737488355328) (hm:n+m≤140737488355328) (hz:0 < z)
  (h:∀ v' w',St S ((M.set k (.sl v' E z (n+m) (c++c')))) w'→wpList P ops Q rest ⟨(l.set d v').toArray,D⟩ w') :
  wpList P ops Q (⟨some d,.call { callee:=.builtin .append,args:=#[x,y],argTypes:=#[t,tx] },ty,pos,af,none⟩::rest) ⟨l.toArray,D⟩ w:=by
 obtain ⟨v',w',hr,hst'⟩:=Kc (P:=P) (ty:=ty) V hk hT hE (Src.own V hj h1 hU.u) hb hm hz;refine BK ?_ (h v' w' hst');simp [execOp,resolve,invoke,builtin,hx,hy,hr]
theorem Bj {k:Nat} {x y:Operand} {v u:Value} {t tx E e':TypeId} {agg:Bool} {n:Nat} {zero c:List Value} {xs:List α} {bb:Nat} (V:St S M w) (hx:Ai l x=v) (hy:Ai l y=u) (hk:M[k]? = some (.sl v E (Z.z α) n c)) (hu:RSl S u xs)
  (hT:SlT P t E) (hE:Ty P E agg (Z.z α) zero bb) (hU:SlT P tx e') (hb:(n+xs.length) * bb≤140737488355328) (hm:n+xs.length≤140737488355328) (hz:0 < Z.z α)
  (h:∀ v' w' c',RL S c' xs→St S ((M.set k (.sl v' E (Z.z α) (n+xs.length) (c++c')))) w'→wpList P ops Q rest ⟨(l.set d v').toArray,D⟩ w') :
  wpList P ops Q (⟨some d,.call { callee:=.builtin .append,args:=#[x,y],argTypes:=#[t,tx] },ty,pos,af,none⟩::rest) ⟨l.toArray,D⟩ w:=by
 obtain ⟨c',hs,hc'⟩:=Src.data (P:=P) V hu hU.u;obtain ⟨v',w',hr,hst'⟩:=Kc (P:=P) (ty:=ty) V hk hT hE hs hb hm hz;refine BK ?_ (h v' w' c' hc' hst');simp [execOp,resolve,invoke,builtin,hx,hy,hr]
def u8s (b:List UInt8):List Value:=b.map fun x=>.int .u8 x.toNat
theorem RL.eq_u8s {c b} (h:RL S c b):c=u8s b:=by
 apply List.ext_getElem?;intro j;simp only [Sl.u8s,List.getElem?_map];have hl:c.length=b.length:=by simpa [Z.z] using h.1
 cases hb:b[j]? with
 | none=>simp only [Option.map_none];rw [List.getElem?_eq_none_iff] at hb ⊢;omega
 | some x =>
  have:=h.2 j x hb;have h2:(c.drop (j * Z.z UInt8)).take (Z.z UInt8)=[.int .u8 x.toNat]:=this;rw [show Z.z UInt8=1 from rfl,Nat.mul_one] at h2;have h3:=congrArg (·[0]?) h2
  simpa [List.getElem?_take,List.getElem?_drop] using h3
theorem PN {k:Nat} {x y:Operand} {v:Value} {t tx E:TypeId} {agg:Bool} {n:Nat} {zero c:List Value} {b:List UInt8} {bb:Nat} (V:St S M w) (hx:Ai l x=v) (hy:Ai l y=.string ⟨b.toArray⟩) (hk:M[k]? = some (.sl v E 1 n c))
  (hT:SlT P t E) (hE:Ty P E agg 1 zero bb) (hU:P.underlying tx=some .string) (hb:(n+b.length) * bb≤140737488355328) (hm:n+b.length≤140737488355328)
  (h:∀ v' w',St S ((M.set k (.sl v' E 1 (n+b.length) (c++u8s b)))) w'→wpList P ops Q rest ⟨(l.set d v').toArray,D⟩ w') :
  wpList P ops Q (⟨some d,.call { callee:=.builtin .append,args:=#[x,y],argTypes:=#[t,tx] },ty,pos,af,none⟩::rest) ⟨l.toArray,D⟩ w:=by
 have hs:Src P 1 tx (.string ⟨b.toArray⟩) b.length (u8s b) w:=by
  have:=Src.ofString (P:=P) w hU ⟨b.toArray⟩
  simpa [byteCells,u8s,ByteArray.size] using this
 obtain ⟨v',w',hr,hst'⟩:=Kc (P:=P) (ty:=ty) V hk hT hE hs hb hm (by omega);refine BK ?_ (h v' w' hst');simp [execOp,resolve,invoke,builtin,hx,hy,hr]
end
variable {P:Program}
section
variable {ops:Array Oper} {rest:List Oper} {Q:Exit→Act→World→Prop} {l:List Value} {D:List Deferred} {w:World} {d:Tmp} {ty:TypeId} {pos:String} {af:Array Edge} {S:Ad} {M:List J}
variable {α:Type} [Z α]
def Bd (o:Option Value) (dflt n:Nat):Prop:=(o=none∧n=dflt)∨∃ k,o=some (.int k (n:Int))
theorem Bd.run {o dflt n y c} (h:Bd o dflt n) (hy:n≤y):
  (match o with|some v=>Instr.sliceBound v y c|none=>(pure dflt:Sem Nat)).run P w=.ok n w:=by
 rcases h with ⟨rfl,rfl⟩|⟨k,rfl⟩
 ·rfl
 ·have:(n:Int)≤y:=by omega
  simp [Instr.sliceBound,asIntOf,this]
theorem M7 {lo hi mx len cap a b m} (hl:Bd lo 0 a) (hh:Bd hi len b) (hm:Bd mx cap m) (h1:a≤b) (h2:b≤m) (h3:m≤cap) (hx:mx.isSome=true→hi.isSome=true) (sl):
  (Instr.sliceBounds sl len cap lo hi mx).run P w=.ok (a,b,m) w:=by
 rcases hm with ⟨rfl,rfl⟩|⟨km,rfl⟩
 ·rcases hh with ⟨rfl,rfl⟩|⟨kh,rfl⟩
  ·rcases hl with ⟨rfl,rfl⟩|⟨kl,rfl⟩<;>simp [Instr.sliceBounds,Instr.sliceBound,asIntOf,h1]
  ·rcases hl with ⟨rfl,rfl⟩|⟨kl,rfl⟩<;>simp [Instr.sliceBounds,Instr.sliceBound,asIntOf,h1,h2]
 ·rcases hh with ⟨rfl,rfl⟩|⟨kh,rfl⟩
  ·simp at hx
  ·rcases hl with ⟨rfl,rfl⟩|⟨kl,rfl⟩<;>simp [Instr.sliceBounds,Instr.sliceBound,asIntOf,h1,h2,h3]
theorem Fi {T E agg z zero bb} (hT:SlT P T E) (hE:Ty P E agg z zero bb) {lo hi mx ad len cap a b m} (hl:Bd lo 0 a) (hh:Bd hi len b) (hm:Bd mx cap m) (h1:a≤b) (h2:b≤m) (h3:m≤cap) (hx:mx.isSome=true→hi.isSome=true):
  (Instr.sliceAt T (.slice ad len cap) lo hi mx).run P w=.ok (.slice (if m=a then ad else ad.map (·.add (a * z))) (b - a) (m - a)) w:=by
 simp [Instr.sliceAt,run_underlying hT.u,Instr.slice,M7 hl hh hm h1 h2 h3 hx,hE.run_sizeOf]
theorem RSl.sub {v} {xs:List α} {ad len cap} (hv:RSl S v xs) (e:v=.slice ad len cap) (a b m) (h1:a≤b) (h2:b≤xs.length) (h3:b≤m) (h4:m≤cap):
  RSl S (.slice (if m=a then ad else ad.map (·.add (a * Z.z α))) (b - a) (m - a)) ((xs.drop a).take (b - a)):=by
 subst e;rcases hv with ⟨ad',cap',e,rfl,hcm⟩|⟨b0,o,cap0,c,T,fz,e,hb,hc,hm,hRL⟩
 ·obtain ⟨rfl,rfl,rfl⟩:ad=ad'∧len=0∧cap=cap':=by simpa using e
  left;simp at h2;subst h2;have ha:a=0:=by omega
  subst ha;exact ⟨_,m,rfl,by simp,by omega⟩
 ·obtain ⟨rfl,rfl,rfl⟩:ad=some ⟨b0,o,none⟩∧len=xs.length∧cap=cap0:=by simpa using e
  have hlen:((xs.drop a).take (b - a)).length=b - a:=by simp;omega
  have hsub:=hRL.sub a (b - a) (by omega);rw [List.drop_take,List.take_take,List.drop_drop] at hsub;have hle:(b - a) * Z.z α≤xs.length * Z.z α - a * Z.z α:=by rw [← Nat.sub_mul];exact Nat.mul_le_mul_right _ (by omega)
  rw [Nat.min_eq_left hle] at hsub;right;by_cases hma:m=a
  ·have hba:b - a=0:=by omega
   refine ⟨b0,o,m - a,c,T,fz,?_,hb,by rw [hlen];omega,by omega,?_⟩
   ·rw [if_pos hma,hlen]
   ·rw [hlen,hba,Nat.zero_mul,List.take_zero];rw [hba,Nat.zero_mul,List.take_zero] at hsub;exact hsub
  ·refine ⟨b0,o+a * Z.z α,m - a,c,T,fz,?_,hb,by rw [hlen];omega,by omega,?_⟩
   ·rw [if_neg hma,hlen,Option.map_some,Addr.add_mid]
   ·rw [hlen];exact hsub
theorem RSl.form {v} {xs:List α} (hv:RSl S v xs):∃ ad cap,v=.slice ad xs.length cap∧xs.length≤cap∧cap≤maxLen:=by
 rcases hv with ⟨ad,cap,rfl,rfl,hcm⟩|⟨b0,o,cap0,c,T,fz,rfl,hb,hc,hm,hRL⟩
 ·exact ⟨ad,cap,rfl,Nat.zero_le _,hcm⟩
 ·exact ⟨_,_,rfl,hc,hm⟩
theorem CG {T E:TypeId} {x:Operand} {lo hi mx:Option Operand} {agg:Bool} {zero:List Value} {bb:Nat} {v:Value} {xs:List α} {a b:Nat} (hx:Ai l x=v) (hv:RSl S v xs) (hT:SlT P T E) (hE:Ty P E agg (Z.z α) zero bb)
  (hl:Bd (lo.map (Ai l)) 0 a) (hh:Bd (hi.map (Ai l)) xs.length b) (hm:mx=none∨(∃ k m,mx.map (Ai l)=some (.int k (m:Nat))∧b≤m∧m≤xs.length∧hi.isSome=true)) (h1:a≤b) (h2:b≤xs.length)
  (h:∀ v',RSl S v' ((xs.drop a).take (b - a))→wpList P ops Q rest ⟨(l.set d v').toArray,D⟩ w) :
  wpList P ops Q (⟨some d,.slice T x lo hi mx,ty,pos,af,none⟩::rest) ⟨l.toArray,D⟩ w:=by
 obtain ⟨ad,cap,rfl,hc,_⟩:=hv.form;rcases hm with rfl|⟨k,m,hmx,hbm,hml,his⟩
 ·refine BK (w':=w) ?_ (h _ (hv.sub rfl a b cap h1 h2 (by omega) (Nat.le_refl _)));simp only [execOp,hx,Sem.run_bind];rw [Fi hT hE hl hh (mx:=(none:Option Operand).map (Ai l)) (.inl ⟨rfl,rfl⟩) h1 (by omega) (Nat.le_refl _) (by simp)];rfl
 ·refine BK (w':=w) ?_ (h _ (hv.sub rfl a b m h1 h2 hbm (by omega)));simp only [execOp,hx,Sem.run_bind];rw [Fi hT hE hl hh (m:=m) (.inr ⟨k,hmx⟩) h1 hbm (by omega) (by intro _;simpa using his)];rfl
theorem RP {A B:List Value} {u k} (h:A.length=k):(A++u::B).take (k+1)=A++[u]:=by
 subst h;rw [List.take_append,List.take_of_length_le (by omega),show A.length+1 - A.length=1 from by omega];rfl
theorem SD {A B:List Value} {u k n} (h:A.length=k):(A++u::B).drop (k+1+n)=B.drop n:=by
 subst h;rw [List.drop_append,List.drop_of_length_le (by omega),show A.length+1+n - A.length=n+1 from by omega];rfl
theorem MC {z:Nat}:∀ (vs:List Value) (i:Nat) (cells:List Value),(∀ v∈vs,v.cells.size=z)→i * z+vs.length * z=cells.length →
  Instr.fill (fun j=>some (j * z,z)) cells.toArray (vs.zipIdx i |>.map fun p=>(p.2,p.1))=some (cells.take (i * z)++(vs.map (·.cells.toList)).flatten).toArray
 | [],i,cells,_,hl=>by
  simp at hl;simp [Instr.fill,hl]
 | v::r,i,cells,h,hl=>by
  have hv:=h v (.head _);simp only [List.length_cons,Nat.succ_mul] at hl;have hbig:¬ (i * z+v.cells.size > cells.length):=by omega
  have put:∀ (vs:List Value) (j:Nat) (c:Array Value),i * z+j+vs.length≤c.size→(vs.zipIdx j).foldl (fun cs p=>cs.setIfInBounds (i * z+p.2) p.1) c=(c.toList.take (i * z+j)++vs++c.toList.drop (i * z+j+vs.length)).toArray:=by
   intro vs
   induction vs with
   | nil=>intro j c _;simp
   | cons u us ih =>
    intro j c hc;simp only [List.length_cons] at hc;rw [List.zipIdx_cons,List.foldl_cons,ih (j+1) _ (by simp;omega)];have hlt:i * z+j < c.toList.length:=by simp;omega
    congr 1
    simp only [Array.toList_setIfInBounds];rw [List.set_eq_take_append_cons_drop,if_pos hlt];have hl2:(c.toList.take (i * z+j)).length=i * z+j:=by simp;omega
    rw [show i * z+(j+1)=i * z+j+1 from by omega,RP hl2,SD hl2,List.drop_drop];simp only [List.append_assoc,List.singleton_append];rw [show i * z+j+1+us.length=i * z+j+(u::us).length from by simp;omega]
  simp only [List.zipIdx_cons,List.map_cons,Instr.fill,hv,ne_eq,not_true_eq_false,decide_false,Bool.false_or,List.size_toArray];rw [if_neg (by simpa [hv] using hbig)]
  have hz:v.cells.zipIdx.foldl (fun cs (p:Value×Nat)=>cs.setIfInBounds (i * z+p.2) p.1) cells.toArray=(cells.take (i * z)++v.cells.toList++cells.drop (i * z+z)).toArray:=by
   have:=put v.cells.toList 0 cells.toArray (by simp [hv];omega);rw [← Array.foldl_toList]
   simpa [hv] using this
  have hz':v.cells.zipIdx.foldl (fun cs x=>match x with|(c,j)=>cs.setIfInBounds (i * z+j) c) cells.toArray=(cells.take (i * z)++v.cells.toList++cells.drop (i * z+z)).toArray:=hz;have hlen:(cells.take (i * z)++v.cells.toList).length=(i+1) * z:=by simp [hv,Nat.succ_mul];omega
  rw [hz',MC r (i+1) _ (fun u hu=>h u (.tail _ hu)) (by simp [hv,Nat.succ_mul];omega)]
  congr 2
  rw [← hlen,List.take_left];simp
theorem Ay {T E:TypeId} {n:Nat} {parts:Array (Nat×Operand)} {agg:Bool} {z:Nat} {zero:List Value} {bb:Nat} {vs cs:List Value} (V:St S M w) (hT:SlT P T E) (hE:Ty P E agg z zero bb)
  (L:parts.toList.map (fun p=>(p.1,Ai l p.2))=(vs.zipIdx.map fun p=>(p.2,p.1))) (hn:vs.length=n) (hv:∀ v∈vs,v.cells.size=z) (hc:(vs.map (·.cells.toList)).flatten=cs) (hs:n * z≤16777216) (hz:0 < z)
  (h:∀ v w',St S (.sl v E z n cs::M) w'→wpList P ops Q rest ⟨(l.set d v).toArray,D⟩ w') :
  wpList P ops Q (⟨some d,.buildSlice T n parts,ty,pos,af,none⟩::rest) ⟨l.toArray,D⟩ w:=by
 subst hc
 have hlen:(vs.map (·.cells.toList)).flatten.length=n * z:=by
  rw [← hn];clear L hn hs h
  induction vs with
  | nil=>simp
  | cons v r ih=>simp [ih (fun u hu=>hv u (.tail _ hu)),hv v (.head _),Nat.succ_mul,Nat.add_comm]
 have hzero:∀ (q:Array Value),((Array.range (n * z)).map (q[· % q.size]!)).size=n * z:=fun q=>by simp
 refine BK (v:=.slice (some ⟨w.heap.size,0,none⟩) n n) (w':=w.alloc (.cells (vs.map (·.cells.toList)).flatten.toArray E)) ?_ (h _ _ (V.alloc_sl (fz:=(0,0)) hlen (fun j _=>by simp) (Nat.le_refl _) ?_ (by simpa using Nat.le_of_eq hlen.symm) ?_))
 ·have hfill:=fun q:Array Value=>MC (z:=z) vs 0 ((Array.range (n * z)).map (q[· % q.size]!)).toList hv (by simp [hn])
  simp only [Nat.zero_mul,List.take_zero,List.nil_append,Array.toArray_toList] at hfill
  have hparts:(parts.map fun (i,x)=>(i,Ai l x)).toList=(vs.zipIdx.map fun p=>(p.2,p.1)):=by
   rw [← L];simp
  have h24:¬ (n * z > 2 ^ 24):=by omega
  simp only [execOp,Instr.buildSlice,Sem.run_bind,run_underlying hT.u,Result.andThen_ok,hE.run_sizeOf,h24,if_false,Sem.run_pure,hparts];by_cases h0:n * z=0
  ·have hq:=hfill #[];simp only [h0] at hq;simp only [h0,if_true,Sem.run_pure,Result.andThen_ok,hq,Sem.run_bind];rfl
  ·have hq:=hfill (DU agg zero).cells;simp only [h0,if_false,Sem.run_bind,hE.run_zero,Sem.run_pure,Result.andThen_ok,hq];rfl
 ·have:=Nat.le_mul_of_pos_right n hz;simp only [maxLen];omega
 ·show List.take (n * z) (List.toArray _).toList=_;rw [List.toList_toArray,List.take_of_length_le (by rw [hlen];exact Nat.le_refl _)]
theorem Un (b:List UInt8):∀ s:ByteArray,(b.map fun x=>(x.toNat:Int)).foldl (fun r n=>r.push (UInt8.ofNat n.toNat)) s=⟨s.data++b.toArray⟩:=by
 induction b with
 | nil=>intro s;simp
 | cons x r ih =>
  intro s;rw [List.map_cons,List.foldl_cons,ih];simp [ByteArray.push]
theorem MZ {src dst E ad cap b} (hs:SlT P src E) (he:P.underlying E=some (.int .u8)) (hd:P.underlying dst=some .string) (hc:b=[]∨∃ bl o,ad=some ⟨bl,o,none⟩∧w.rangeAt bl o (u8s b)):
  (convert src dst (.slice ad b.length cap)).run P w=.ok (.string ⟨b.toArray⟩) w:=by
 rw [run_convert_bytes_string w src dst E ad b.length cap hs.u he hd];rcases hc with rfl|⟨bl,o,rfl,hr⟩
 ·cases ad with
  | none=>rfl
  | some ad=>rfl
 ·have hl:(loadCells ⟨bl,o,none⟩ b.length).run P w=.ok ((b.map fun x=>(x.toNat:Int)).map (Value.int .u8)).toArray w:=by
   have:=run_loadCells_list (P:=P) w ⟨bl,o,none⟩ (u8s b) (fun j v hv=>by rw [Addr.add_mid];exact hr j v hv)
   simpa [u8s,Function.comp_def] using this
  rw [run_bytesToString w _ _ cap _ hl,Un];simp
theorem Ye {src dst E:TypeId} {x:Operand} {v:Value} {b:List UInt8} (V:St S M w) (hx:Ai l x=v) (hv:RSl S v b) (hs:SlT P src E) (he:P.underlying E=some (.int .u8)) (hd:P.underlying dst=some .string)
  (h:wpList P ops Q rest ⟨(l.set d (.string ⟨b.toArray⟩)).toArray,D⟩ w) :
  wpList P ops Q (⟨some d,.convert src dst x,ty,pos,af,none⟩::rest) ⟨l.toArray,D⟩ w:=by
 refine BK (w':=w) ?_ h;rcases hv with ⟨ad,cap,rfl,rfl,_⟩|⟨b0,o,cap0,c,T,fz,rfl,hb,hc,hm,hRL⟩
 ·have:=MZ (P:=P) (w:=w) (ad:=ad) (cap:=cap) (b:=[]) hs he hd (.inl rfl);simp at this;simp [execOp,hx,this]
 ·have:=MZ (P:=P) (w:=w) (ad:=some ⟨b0,o,none⟩) (cap:=cap0) (b:=b) hs he hd (.inr ⟨b0,o,rfl,by rw [← hRL.eq_u8s];exact Kf (V.has _ _ hb)⟩);simp [execOp,hx,this]
theorem JI {T E:TypeId} {x y:Operand} {agg:Bool} {z:Nat} {zero:List Value} {bb:Nat} {k k':IntKind} {n:Nat} (V:St S M w) (hT:SlT P T E) (hE:Ty P E agg z zero bb) (hx:Ai l x=.int k (n:Int)) (hy:Ai l y=.int k' (n:Int)) (hb:n * bb≤140737488355328) (hm:n≤140737488355328)
  (h:∀ v w',St S (.sl v E z n (List.replicate n zero).flatten::M) w'→wpList P ops Q rest ⟨(l.set d v).toArray,D⟩ w') :
  wpList P ops Q (⟨some d,.makeSlice T x y,ty,pos,af,none⟩::rest) ⟨l.toArray,D⟩ w:=by
 obtain ⟨i,hi,hiz,his,hib⟩:=hE.run_bytes
 have hbn:(i.bytes:Int) * (n:Int)≤281474976710656:=by
  have:((bb * n:Nat):Int)≤281474976710656:=by rw [Nat.mul_comm];omega
  rw [hib,← Int.natCast_mul];exact this
 have hr:=run_make (P:=P) w T E i _ hT.u hi hiz k k' n n (by omega) (Int.le_refl _) hbn (by omega);have hzero:(DU agg zero).cells=zero.toArray:=by apply Array.ext';simpa using hE.cells_
 have hlen:(List.replicate n zero).flatten.length=n * z:=by simp [hE.len_]
 refine BK (v:=.slice (some ⟨w.heap.size,0,none⟩) n n) (w':=w.alloc (.cells (madeCells (DU agg zero).cells (n * i.size)) E)) ?_ (h _ _ (V.alloc_sl (fz:=(0,0)) hlen (fun j _=>by simp) (Nat.le_refl _) (by simp only [maxLen];omega) (by simp [size_madeCells,his]) ?_))
 ·simp only [Int.toNat_natCast] at hr;simp [execOp,hx,hy,hr]
 ·rw [his,hzero];apply List.ext_getElem?;intro j;rw [List.getElem?_take];split
  ·rename_i hj
   have hz:0 < z:=by
    rcases Nat.eq_zero_or_pos z with e|e
    ·subst e;simp at hj
    ·exact e
   have e1:j=(j / z) * z+j % z:=(Nat.div_add_mod' j z).symm;have hq:j / z < n:=by rw [Nat.div_lt_iff_lt_mul hz];exact hj
   have hr':=Nat.mod_lt j hz
   have:∀ m,(j / z) < m→((List.replicate m zero).flatten)[j]? = zero[j % z]?:=by
    intro m hm';have hsplit:m=(j / z)+(1+(m - j / z - 1)):=by omega
    rw [hsplit,← List.replicate_append_replicate,List.flatten_append,List.getElem?_append_right (by simp [hE.len_];exact Nat.div_mul_le_self j z)];rw [← List.replicate_append_replicate,List.flatten_append];have el:(List.replicate (j / z) zero).flatten.length=j / z * z:=by simp [hE.len_]
    rw [el,show j - j / z * z=j % z from by omega,List.getElem?_append_left (by simp [hE.len_,hr'])];simp
   rw [this n hq];simp [madeCells,hj,hE.len_];rw [List.getElem?_eq_getElem (by rw [hE.len_];exact hr')];rfl
  ·rename_i hj;rw [List.getElem?_eq_none (by rw [hlen];omega)]
end
end Go.Sl
namespace Go.Sl
open Go.Proofs.YtmmbidoldegemaaGreatDoor Go.RowKit
variable {P:Program}
section
variable {α β:Type} [Z α] [Z β] {S:Ad} {w:World}
def DN (w:World):Ad:=⟨w.os,w.tape,w.output,fun b=>w.heap[b]?⟩
theorem St.start (w:World):St (DN w) [] w where
 os:=rfl
 tape:=rfl
 output:=rfl
 has:=fun _ _ h=>h
 at_:=fun _ h=>(by cases h)
 out:=fun _ h=>(by cases h)
 apart:=List.Pairwise.nil
theorem St.below {W w M} (h:St (DN W) M w):Below W.heap.size W w:=by
 have hb:∀ k,k < W.heap.size→w.heap[k]? = W.heap[k]?:=fun k hk=>by
  have:(DN W).blk k=some W.heap[k]:=by simp [DN,hk]
  rw [h.has k _ this];simp [hk]
 refine ⟨h.os,h.tape,h.output,?_,hb⟩;rcases Nat.eq_zero_or_pos W.heap.size with e|e
 ·omega
 ·have:=hb (W.heap.size - 1) (by omega);rw [Array.getElem?_eq_getElem (xs:=W.heap) (by omega)] at this;have h2:=(Array.getElem?_eq_some_iff.1 this).1;omega
class Siz (α:Type) where
 siz:α→Nat
instance : Siz Int:=⟨fun _=>1⟩
instance : Siz UInt8:=⟨fun _=>1⟩
instance : Siz Bool:=⟨fun _=>1⟩
instance : Siz Cv:=⟨fun s=>s.b.length⟩
instance : Siz Unit:=⟨fun _=>0⟩
instance {α:Type} [Siz α]:Siz (List α):=⟨fun l=>(l.map Siz.siz).sum+1⟩
instance {α β:Type} [Siz α] [Siz β]:Siz (α×β):=⟨fun p=>Siz.siz p.1+Siz.siz p.2⟩
instance {α:Type} [Siz α] {n:Nat}:Siz (H7 α n):=⟨fun a=>(a.1.map Siz.siz).sum⟩
variable [Siz α] [Siz β]
omit [Z α] in
theorem SL {H ι:Type} {l:List ι} {f:ι→α} {D:ι→DataW H} (h:∀ i∈l,Siz.siz (f i)≤Rows.uptoBulk (D i)):((l.map f).map Siz.siz).sum≤Rows.uptoBulkAll (l.map D):=by
 induction l with
 | nil=>simp
 | cons i l ih =>
  have h1:=h i (.head _);have h2:=ih fun j hj=>h j (.tail _ hj)
  simp only [List.map_cons,List.sum_cons,Rows.uptoBulkAll];omega
class Opens (P:Program) (T:TypeId) (α:Type) [Z α] [Siz α]:Prop where
 opens:∀ {H:Type} {enc:TypeId×Value→H} {W:World} {base:Nat} {spare:Nat→Bool} {held:Bool} {fuel:Nat} {cs:List Value} {x:DataW H×List MemPlace},
  DataW.trod enc P W base spare held fuel T cs=some x→∃ y:α,Z.R (DN W) cs y∧Siz.siz y≤Rows.uptoBulk x.1
theorem YT {T} (h:P.underlying T=some (.int .u8)):Opens P T UInt8:=⟨fun hx=>by
 obtain ⟨n,rfl,rfl,hw⟩:=DataW.trod_int h hx;have:0≤n∧n≤255:=by simpa [Lit.wf,IntKind.min,IntKind.max,IntKind.signed,IntKind.bits] using hw
 refine ⟨UInt8.ofNat n.toNat,?_,by simp [Rows.uptoBulk,Siz.siz]⟩;show [Value.int .u8 n]=[Value.int .u8 ((UInt8.ofNat n.toNat).toNat:Int)];rw [UInt8.toNat_ofNat']
 congr 2
 omega⟩
theorem V2 {T} (h:P.underlying T=some .string):Opens P T Cv:=⟨fun hx=>by
 obtain ⟨s,rfl,rfl,hl⟩:=DataW.trod_string h hx;refine ⟨⟨s.data.toList⟩,⟨?_,?_⟩,by simp [Rows.uptoBulk,Siz.siz]⟩
 ·rw [Array.toArray_toList]
 ·rw [Array.length_toList];exact hl⟩
theorem Kr {T agg z zero bb} (h:Ty P T agg z zero bb):P.cellsOf T=z:=by
 obtain ⟨i,hi,_,hs,_⟩:=h.run_bytes;simp [Program.cellsOf,hi,hs]
theorem Lo {W:World} {base b o n sp cs} (h:W.cells? base ⟨b,o,sp⟩ n=some cs) (hn:0 < n):
  ∃ c T fz,W.heap[b]? = some (.cells c T fz)∧sp=none∧o+n≤c.size∧cs=(c.toList.drop o).take n:=by
 obtain ⟨_,hl,hc⟩:=World.cells?_some h;have h0:=hc 0 hn
 have hsp:sp=none:=by
  cases sp with
  | none=>rfl
  | some t =>
   exfalso;rw [Addr.add_zero',List.getElem?_eq_getElem (by omega)] at h0;unfold World.cell? at h0;split at h0<;>simp at h0
 subst hsp
 cases hb:W.heap[b]? with
 | none=>rw [Addr.add_mid,List.getElem?_eq_getElem (by omega)] at h0;simp [World.cell?,hb] at h0
 | some ob =>
  cases ob with
  | cells c T fz =>
   have hcell:∀ i,i < n→c[o+i]? = cs[i]?:=fun i hi=>by
    have:=hc i hi;rw [Addr.add_mid] at this
    simpa [World.cell?,hb] using this
   have hle:o+n≤c.size:=by
    have:=hcell (n - 1) (by omega);rw [List.getElem?_eq_getElem (by omega)] at this;have:=(Array.getElem?_eq_some_iff.1 this).1;omega
   refine ⟨c,T,fz,rfl,rfl,hle,?_⟩;apply List.ext_getElem?;intro i;rw [List.getElem?_take];split
   ·rename_i hi;rw [← hcell i hi,List.getElem?_drop];simp
   ·rename_i hi;exact List.getElem?_eq_none (by omega)
  | _=>rw [Addr.add_mid,List.getElem?_eq_getElem (by omega)] at h0;simp [World.cell?,hb] at h0
theorem Nl {T E agg zero bb} (hT:SlT P T E) (hE:Ty P E agg (Z.z α) zero bb) (hz:0 < Z.z α) [o:Opens P E α]:Opens P T (List α):=⟨fun {H enc W base spare held fuel cs x} hx=>by
 rcases Deep.open_slice hT.u hx with ⟨rfl,rfl⟩|⟨a,len,cap,m,n,Dt,Pl,rfl,hb,hl,hm,hmm,rfl,hel⟩
 ·exact ⟨[],⟨_,rfl,.inl ⟨none,0,rfl,rfl,by simp [maxLen]⟩⟩,by simp [Rows.uptoBulk,Siz.siz]⟩
 ·rw [Kr hE] at hel;have hlm:len≤m:=by rw [hmm];split<;>omega
  have hy:∀ i,i < len→∃ y:α,∃ cs',W.cells? base (a.add (i * Z.z α)) (Z.z α)=some cs'∧Z.R (DN W) cs' y∧Siz.siz y≤Rows.uptoBulk (Dt i):=fun i hi=>by
   obtain ⟨cs',h1,h2⟩:=hel i (by omega);obtain ⟨y,hy,hs⟩:=o.opens h2;exact ⟨y,cs',h1,hy,hs⟩
  rcases Nat.eq_zero_or_pos len with e|e
  ·subst e;exact ⟨[],⟨_,rfl,.inl ⟨some a,cap,rfl,rfl,hm⟩⟩,by simp [Rows.uptoBulk,Siz.siz]⟩
  ·obtain ⟨b,o',sp⟩:=a;have:Nonempty α:=let ⟨y,_⟩:=hy 0 e;⟨y⟩
   have hch:∃ f:Nat→α,∀ i,i < len→∃ cs',W.cells? base ((⟨b,o',sp⟩:Addr).add (i * Z.z α)) (Z.z α)=some cs'∧Z.R (DN W) cs' (f i)∧Siz.siz (f i)≤Rows.uptoBulk (Dt i):=by
    have:Inhabited α:=⟨Classical.choice this⟩
    exact Deep.choose_lt hy
   obtain ⟨f,hf⟩:=hch;obtain ⟨cs0,h0,_,_⟩:=hf 0 e;rw [Nat.zero_mul,Addr.add_zero'] at h0;obtain ⟨c,TT,fz,hblk,rfl,_,_⟩:=Lo h0 hz
   refine ⟨(List.range len).map f,⟨_,rfl,.inr ⟨b,o',cap,c,TT,fz,by simp,hblk,by simpa using hl,hm,?_⟩⟩,by
    have:=SL (l:=List.range len) (f:=f) (D:=Dt) fun i hi=>(hf i (List.mem_range.1 hi)).elim fun _ h=>h.2.2
    simp only [Siz.siz,Rows.uptoBulk] at this ⊢;omega⟩
   have hcell:∀ i,i < len→o'+i * Z.z α+Z.z α≤c.size∧Z.R (DN W) ((c.toList.drop (o'+i * Z.z α)).take (Z.z α)) (f i):=fun i hi=>by
    obtain ⟨cs',h1,h2,_⟩:=hf i hi;rw [Addr.add_mid] at h1;obtain ⟨c',T',fz',hb',_,hle,rfl⟩:=Lo h1 hz;obtain rfl:c=c':=by rw [hblk] at hb';cases hb';rfl
    exact ⟨hle,h2⟩
   have hlast:=(hcell (len - 1) (by omega)).1
   have hlen:o'+len * Z.z α≤c.size:=by
    have:(len - 1) * Z.z α+Z.z α=len * Z.z α:=by rw [← Nat.succ_mul];congr 1;omega
    omega
   refine ⟨by simp;omega,fun i x hix=>?_⟩
   have hi:i < len:=by
    rcases Nat.lt_or_ge i len with h|h
    ·exact h
    ·rw [List.getElem?_eq_none (by simpa using h)] at hix;cases hix
   have hx:x=f i:=by simpa [hi] using hix.symm
   subst hx;have hR:=(hcell i hi).2;have hle:i * Z.z α+Z.z α≤len * Z.z α:=by rw [← Nat.succ_mul];exact Nat.mul_le_mul_right _ hi
   rw [List.length_map,List.length_range,List.drop_take,List.take_take,List.drop_drop,Nat.min_eq_left (by omega)];exact hR⟩
class OpenFs (P:Program) (fs:List Field) (off:Nat) (β:Type) [Z β] [Siz β]:Prop where
 opens:∀ {H:Type} {enc:TypeId×Value→H} {W:World} {base:Nat} {spare:Nat→Bool} {held:Bool} {fuel:Nat} {cs:List Value} {xs:List (DataW H×List MemPlace)},
  cs.length=off+Z.z β→xs.length=fs.length→(∀ (i:Nat) (f:Field),fs[i]? = some f→DataW.trod enc P W base spare held fuel f.type ((cs.drop f.offset).take (P.cellsOf f.type))=xs[i]?) →
   ∃ y:β,Z.R (DN W) (cs.drop off) y∧Siz.siz y≤Rows.uptoBulkAll (xs.map (·.1))
theorem TN {off}:OpenFs P [] off Unit:=⟨fun h _ _=>⟨(),by show List.drop _ _=[];rw [List.drop_eq_nil_iff];simp [Z.z] at h;omega,by simp [Siz.siz]⟩⟩
theorem L7 {f:Field} {fs:List Field} {off:Nat} (ho:f.offset=off) (hz:P.cellsOf f.type=Z.z α) [oa:Opens P f.type α] [ob:OpenFs P fs (off+Z.z α) β]:OpenFs P (f::fs) off (α×β):=⟨fun {H enc W base spare held fuel cs xs} h hlen hall=>by
 subst ho
 cases xs with
 | nil=>simp at hlen
 | cons x xs =>
  have h1:=hall 0 f rfl;obtain ⟨y,hy,hs⟩:=oa.opens (x:=x) h1;obtain ⟨y',hy',hs'⟩:=ob.opens (xs:=xs) (by rw [h];show _+(Z.z α+Z.z β)=_;omega) (by simpa using hlen) (fun i g hg=>by simpa using hall (i+1) g (by simpa using hg));refine ⟨(y,y'),⟨?_,?_,?_⟩,?_⟩
  ·rw [List.length_drop,h];show _=Z.z α+Z.z β;have:Z.z (α×β)=Z.z α+Z.z β:=rfl;omega
  ·rw [hz] at hy;exact hy
  ·rw [List.drop_drop];exact hy'
  ·simp only [Siz.siz,List.map_cons,Rows.uptoBulkAll] at hs hs' ⊢;omega⟩
theorem P9 {T fs} (hT:P.underlying T=some (.struct fs)) (hz:P.cellsOf T=Z.z α) (o:OpenFs P fs.toList 0 α):Opens P T α:=⟨fun {H enc W base spare held fuel cs x} hx=>by
 obtain ⟨xs,n,_,rfl,hl,hxl,hf⟩:=DataW.trod_struct hT hx;obtain ⟨y,hy,hs⟩:=o.opens (enc:=enc) (W:=W) (base:=base) (spare:=spare) (held:=held) (fuel:=n) (cs:=cs) (xs:=xs) (by rw [hl,hz,Nat.zero_add]) (by rw [hxl];simp) (fun i f hf'=>hf i f (by simpa using hf'));exact ⟨y,by simpa using hy,by simp only [Rows.uptoBulk];omega⟩⟩
theorem Rq {T E n} (hT:ArrT P T n E) (hz:P.cellsOf E=Z.z α) (hz':P.cellsOf T=n * Z.z α) [o:Opens P E α]:Opens P T (H7 α n):=⟨fun {H enc W base spare held fuel cs x} hx=>by
 obtain ⟨xs,m,_,rfl,hl,hxl,hf⟩:=DataW.trod_array hT.u hx
 have hy:∀ i,i < n→∃ y:α,Z.R (DN W) ((cs.drop (i * Z.z α)).take (Z.z α)) y∧Siz.siz y≤Rows.uptoBulk ((xs.map (·.1)).getD i .nil):=fun i hi=>by
  have:=hf i hi;rw [List.getElem?_eq_getElem (by omega),hz] at this;have h2:=o.opens this;rw [List.getD_eq_getElem?_getD,List.getElem?_map,List.getElem?_eq_getElem (by omega)];exact h2
 have hch:∃ l:List α,l.length=n∧(∀ i y,l[i]? = some y→Z.R (DN W) ((cs.drop (i * Z.z α)).take (Z.z α)) y)∧(l.map Siz.siz).sum≤Rows.uptoBulkAll (xs.map (·.1)):=by
  rcases Nat.eq_zero_or_pos n with e|e
  ·subst e;exact ⟨[],rfl,fun i y h=>by simp at h,by simp⟩
  ·obtain ⟨y0,_⟩:=hy 0 e;have:Inhabited α:=⟨y0⟩
   obtain ⟨f,hf⟩:=Deep.choose_lt hy;refine ⟨(List.range n).map f,by simp,fun i y h=>?_,?_⟩
   ·have hi:i < n:=by
     rcases Nat.lt_or_ge i n with h'|h'
     ·exact h'
     ·rw [List.getElem?_eq_none (by simpa using h')] at h;cases h
    have:y=f i:=by simpa [hi] using h.symm
    subst this;exact (hf i hi).1
   ·have:=SL (l:=List.range n) (f:=f) (D:=fun i=>(xs.map (·.1)).getD i .nil) fun i hi=>(hf i (List.mem_range.1 hi)).2
    rwa [show (List.range n).map (fun i=>(xs.map (·.1)).getD i .nil)=xs.map (·.1) from by
     apply List.ext_getElem?;intro i;rw [List.getElem?_map];by_cases hi:i < n
     ·rw [List.getElem?_range hi,Option.map_some,List.getD_eq_getElem?_getD,List.getElem?_eq_getElem (by simp;omega)];rfl
     ·rw [List.getElem?_eq_none (by simp;omega),List.getElem?_eq_none (by simp;omega)];rfl] at this
 obtain ⟨l,hll,hlr,hls⟩:=hch;exact ⟨⟨l⟩,⟨hll,by rw [hl,hz',hll],hlr⟩,by simp only [Rows.uptoBulk,Siz.siz];omega⟩⟩
end
end Go.Sl
namespace Go.Sl
open Go.RowKit
variable {P:Program}
section
variable {ops:Array Oper} {rest:List Oper} {Q:Exit→Act→World→Prop} {l:List Value} {D:List Deferred} {w:World} {d:Tmp} {ty:TypeId} {pos:String} {af:Array Edge} {S:Ad} {M:List J}
variable {α β:Type} [Z α] [Z β]
class Body (P:Program) (f:FuncId):Prop where
 ok:(P.funcs[f]?).map (fun fn=>(fn.name == "runtime.NumGoroutine",fn.body.isNone))=some (false,false)
theorem Body.enter {f} (h:Body P f) (args w):(callFunc f args).run P w=.ok (.enter f args) w:=by
 have:=h.ok
 cases hf:P.funcs[f]? with
 | none=>simp [hf] at this
 | some fn =>
  rw [hf] at this;simp only [Option.map_some,Option.some.injEq,Prod.mk.injEq] at this;obtain ⟨h1,h2⟩:=this;have h1':¬ (fn.name = "runtime.NumGoroutine"):=by simpa using h1
  have h2':¬ (fn.body=none):=by intro e;rw [e] at h2;simp at h2
  simp [callFunc,hf,h1',h2']
def Ac (P:Program) (f:FuncId) (args:List Value) (w:World) (post:Value→World→Prop):Prop :=
 Calls P f args.toArray w fun e w'=>∃ v,e=.returned v∧post v w'
theorem Ac.mono {f args} {post post':Value→World→Prop} (h:Ac P f args w post) (L:∀ v w',post v w'→post' v w'):Ac P f args w post' :=
 Calls.mono h fun _ w' ⟨v,e,p⟩=>⟨v,e,L v w' p⟩
def Bq (l:List Value) (d:Option Tmp) (v:Value):List Value:=match d with|some t=>l.set t v|none=>l
theorem MU {o:Oper} (hg:o.guard=none) {f:FuncId} {args:List Value} {post:Value→World→Prop} (hr:(execOp (Ai l) o).run P w=.ok (.enter f args.toArray) w)
  (c:Ac P f args w post) (h:∀ v w',post v w'→wpList P ops Q rest ⟨(Bq l o.dst v).toArray,D⟩ w'):wpList P ops Q (o::rest) ⟨l.toArray,D⟩ w:=by
 refine wpList_plain hg fun K G=>?_
 unfold Oper.wp;rw [Di,hr];refine Calls.mono c fun e w' ⟨v,he,L⟩=>?_
 subst he;refine G _ _ ?_;have:=h v w' L
 cases ho:o.dst<;>simpa [Act.put,Bq,ho] using this
theorem BG {f:FuncId} {xs:List Operand} {ats:Array TypeId} {args:List Value} {dd:Option Tmp} {post:Value→World→Prop} (c:Ac P f args w post) (hb:Body P f) (ha:xs.map (Ai l)=args)
  (h:∀ v w',post v w'→wpList P ops Q rest ⟨(Bq l dd v).toArray,D⟩ w') :
  wpList P ops Q (⟨dd,.call { callee:=.value (.func f),args:=xs.toArray,argTypes:=ats },ty,pos,af,none⟩::rest) ⟨l.toArray,D⟩ w:=by
 refine MU rfl ?_ c h;subst ha;have:=hb.enter (w:=w) (xs.map (Ai l)).toArray;simp only [execOp,resolve,Deferred.ofValue,Ai,Sem.run_bind,Sem.run_pure,Result.andThen_ok,invoke]
 simpa using this
theorem Eh {f:FuncId} {x:Operand} {xs:List Operand} {ats:Array TypeId} {args args':List Value} {fi ca:List Value} {dd:Option Tmp} {post:Value→World→Prop} (c:Ac P f args' w post) (hx:Ai l x=.func (.func f) fi.toArray ca.toArray) (hb:Body P f) (ha:xs.map (Ai l)=args)
  (hargs:fi++args++ca=args') (h:∀ v w',post v w'→wpList P ops Q rest ⟨(Bq l dd v).toArray,D⟩ w') :
  wpList P ops Q (⟨dd,.call { callee:=.value x,args:=xs.toArray,argTypes:=ats },ty,pos,af,none⟩::rest) ⟨l.toArray,D⟩ w:=by
 refine MU rfl ?_ c h;subst ha;subst hargs;have:=hb.enter (w:=w) (fi++xs.map (Ai l)++ca).toArray;simp only [execOp,resolve,hx,Deferred.ofValue,Sem.run_bind,Sem.run_pure,Result.andThen_ok,invoke]
 simpa using this
theorem RSl.oneCell {v} {xs:List α} (h:RSl S v xs):v.oneCell'=true:=by
 rcases h with ⟨ad,cap,rfl,_⟩|⟨b,o,cap,c,T,fz,rfl,_⟩<;>rfl
def JY (v p:Value) (o:Nat):Prop:=∃ g n cap,v=.slice (some ⟨g,0,none⟩) n cap∧p=.pointer (some ⟨g,o,none⟩)
theorem BV {T F:TypeId} {x y:Operand} {agg:Bool} {z:Nat} {zero:List Value} {bb:Nat} {v p u:Value} {o k zz n:Nat} {c cs:List Value} (V:St S M w) (hx:Ai l x=p) (L:JY v p o) (hk:M[k]? = some (.sl v F zz n c))
  (hT:Ty P T agg z zero bb) (hy:Ai l y=u) (hc:u.cells.toList=cs) (hl:cs.length=z) (h1:cs.all (·.oneCell')=true) (hf:o+z≤c.length)
  (h:∀ w',St S (M.set k (.sl v F zz n (c.take o++cs++c.drop (o+z)))) w'→wpList P ops Q rest ⟨l.toArray,D⟩ w') :
  wpList P ops Q (⟨none,.store T x y,ty,pos,af,none⟩::rest) ⟨l.toArray,D⟩ w:=by
 subst hl;obtain ⟨g,n',cap',rfl,rfl⟩:=L;have hmv:=V.move hk;have h0:=V.get hk;rcases h0.2 with ⟨e,_⟩|⟨g',cap,cur,fz,e,hg,hfz,hnc,hcm,hcs,htk⟩
 ·cases e
 ·obtain ⟨hgg,hnn,hcc⟩:g=g'∧n'=n∧cap'=cap:=by simpa using e
  subst hgg;subst hcc;have hcl:=h0.1;have hcur:n * zz≤cur.size:=Nat.le_trans (Nat.mul_le_mul_right _ hnc) hcs;have hfit:o+cs.length≤cur.toList.length:=by simp;omega
  have hat:=FR g F fz cs o w cur.toList (by simpa using hg) hfit;obtain ⟨e1,e2,e3⟩:=EF g cs o w
  have hcell:∀ j,j < cs.length→(w.cell? ⟨g,o+0+j,none⟩).isSome=true:=fun j hj=>by
   have hlt:o+j < cur.size:=by simp at hfit;omega
   simp only [World.cell?,hg];simp [hlt]
  have hfro:∀ j,j < cs.length→w.frozen? ⟨g,o+0+j,none⟩=false:=fun j hj=>by
   have:=hfz (o+j) (by simp at hfit;omega);simp only [World.frozen?,hg]
   simpa using this
  have hrun:=run_storeCells_cells (P:=P) g o cs 0 w hcell hfro (fun u hu=>List.all_eq_true.1 h1 u hu);refine I1 (w':=w.setCells g o cs) ?_ (h _ (St.back hk (hmv.set e1 e2 e3 ⟨?_,.inr ⟨g,cap',_,fz,by rw [hnn],hat,?_,hnc,hcm,?_,?_⟩⟩ (fun b hb=>.inl hb) (fun b _ hne=>EG g cs _ w b (fun e=>hne (by simp [J.own,Value.ownBlock,e]))))))
  ·have hsz:u.cells.size=cs.length:=by rw [← hc];simp
   simp only [execOp,hx,hy,Instr.storeAt,Instr.sureAddr,Sem.run_bind,Sem.run_pure,Result.andThen_ok,storeVar,hT.run_sizeOf,hsz,ne_eq,not_true_eq_false,if_false];rw [hc];simp only [Nat.add_zero] at hrun;rw [hrun];rfl
  ·simp only [List.length_append,List.length_take,List.length_drop];omega
  ·intro j hj;refine hfz j ?_;simp only [List.size_toArray,List.length_append,List.length_take,List.length_drop,Array.length_toList] at hj hfit;omega
  ·simp only [List.size_toArray,List.length_append,List.length_take,List.length_drop,Array.length_toList] at hfit ⊢;omega
  ·rw [List.toList_toArray,← htk];have hlc:(cur.toList.take (n * zz)).length=n * zz:=by simp;omega
   rw [List.take_append,List.take_append];simp only [List.length_append,List.length_take,Array.length_toList] at hfit ⊢;have hmin:min o cur.size=o:=by omega
   rw [hmin,List.take_take,List.take_take,List.drop_take];have ho:o≤n * zz:=by omega
   rw [Nat.min_eq_left ho,Nat.min_eq_right ho];rw [List.take_of_length_le (show cs.length≤n * zz - o by omega)]
end
variable {P:Program}
section
variable {ops:Array Oper} {rest:List Oper} {Q:Exit→Act→World→Prop} {l:List Value} {D:List Deferred} {w:World} {d:Tmp} {dd:Option Tmp} {ty:TypeId} {pos:String} {af:Array Edge} {S:Ad} {M:List J}
variable {α β:Type} [Z α] [Z β]
def Qt (P:Program) (l:List Value) (op:Op) (S:Ad) (M:List J) (v:Value):Prop :=
 ∀ (dst:Option Tmp) (ty:TypeId) (pos:String) (af:Array Edge) (w:World),St S M w→(execOp (Ai l) ⟨dst,op,ty,pos,af,none⟩).run P w=.ok (.value v) w
theorem Ag {op:Op} {v:Value} (V:St S M w) (hq:Qt P l op S M v) (h:wpList P ops Q rest ⟨(l.set d v).toArray,D⟩ w) :
  wpList P ops Q (⟨some d,op,ty,pos,af,none⟩::rest) ⟨l.toArray,D⟩ w:=BK (hq _ _ _ _ w V) h
theorem An {op:Op} {F:Value→Prop} (V:St S M w) (hq:∃ v,F v∧Qt P l op S M v) (h:∀ v,F v→wpList P ops Q rest ⟨(l.set d v).toArray,D⟩ w) :
  wpList P ops Q (⟨some d,op,ty,pos,af,none⟩::rest) ⟨l.toArray,D⟩ w:=let ⟨v,hf,hq⟩:=hq;Ag V hq (h v hf)
variable {K:Act→Prop}
theorem VT {o:Oper} {v:Value} (hg:o.guard=none) (hq:∀ w,St S M w→Oper.quietUpon P (St S M) w v ((execOp (Ai l) o).run P w)) (h:wpQuiet P ops (St S M) K rest ⟨(Bq l o.dst v).toArray,D⟩) :
  wpQuiet P ops (St S M) K (o::rest) ⟨l.toArray,D⟩:=by
 unfold wpQuiet;rw [if_pos (by simp [Region.wanted,hg])];refine ⟨v,fun w hw=>?_,?_⟩
 ·unfold Oper.quietAt;rw [Di];exact hq w hw
 ·cases ho:o.dst<;>simpa [Act.put,Bq,ho] using h
theorem CJ {op:Op} {v:Value} (hq:Qt P l op S M v) (h:wpQuiet P ops (St S M) K rest ⟨(l.set d v).toArray,D⟩) :
  wpQuiet P ops (St S M) K (⟨some d,op,ty,pos,af,none⟩::rest) ⟨l.toArray,D⟩ :=
 VT rfl (fun w hw=>by rw [hq _ _ _ _ w hw];exact ⟨rfl,rfl⟩) h
theorem Ju {op:Op} {F:Value→Prop} (hq:∃ v,F v∧Qt P l op S M v) (h:∀ v,F v→wpQuiet P ops (St S M) K rest ⟨(l.set d v).toArray,D⟩) :
  wpQuiet P ops (St S M) K (⟨some d,op,ty,pos,af,none⟩::rest) ⟨l.toArray,D⟩:=let ⟨v,hf,hq⟩:=hq;CJ hq (h v hf)
theorem q_guard_yes {op:Op} {g:Nat×Bool} (hg:yielded ops l.toArray g.1=some g.2) (h:wpQuiet P ops (St S M) K (⟨dd,op,ty,pos,af,none⟩::rest) ⟨l.toArray,D⟩) :
  wpQuiet P ops (St S M) K (⟨dd,op,ty,pos,af,some g⟩::rest) ⟨l.toArray,D⟩:=by
 unfold wpQuiet at h ⊢;rw [if_pos (by simp [Region.wanted,hg])];rw [if_pos (by simp [Region.wanted])] at h;exact h
theorem q_guard_no {op:Op} {g:Nat×Bool} (hg:(yielded ops l.toArray g.1 == some g.2)=false) (h:wpQuiet P ops (St S M) K rest ⟨(Bq l dd undef).toArray,D⟩) :
  wpQuiet P ops (St S M) K (⟨dd,op,ty,pos,af,some g⟩::rest) ⟨l.toArray,D⟩:=by
 unfold wpQuiet;rw [if_neg (by simpa [Region.wanted] using hg)]
 cases dd<;>simpa [Act.put,Bq] using h
theorem JQ {f:FuncId} {xs:List Operand} {ats:Array TypeId} {args:List Value} {v:Value} (c:∀ w,St S M w→Ac P f args w fun v' w'=>v'=v∧St S M w') (hb:Body P f) (ha:xs.map (Ai l)=args)
  (h:wpQuiet P ops (St S M) K rest ⟨(Bq l dd v).toArray,D⟩) :
  wpQuiet P ops (St S M) K (⟨dd,.call { callee:=.value (.func f),args:=xs.toArray,argTypes:=ats },ty,pos,af,none⟩::rest) ⟨l.toArray,D⟩:=by
 refine VT rfl (fun w hw=>?_) h;subst ha
 have hr:(execOp (Ai l) ⟨dd,.call { callee:=.value (.func f),args:=xs.toArray,argTypes:=ats },ty,pos,af,none⟩).run P w=.ok (.enter f (xs.map (Ai l)).toArray) w:=by
  have:=hb.enter (w:=w) (xs.map (Ai l)).toArray;simp only [execOp,resolve,Deferred.ofValue,Ai,Sem.run_bind,Sem.run_pure,Result.andThen_ok,invoke]
  simpa using this
 rw [hr];exact ⟨rfl,Calls.mono (c w hw) fun e w' ⟨v',he,hv,hs⟩=>⟨by rw [he,hv],hs⟩⟩
theorem Fv {id:Nat} {lo:List Oper} (V:St S M w) (hm:P.follows .mixedOrders=true) (hB:Region.lexB .any lo.toArray=true)
  (h:wpQuiet P lo.toArray (St S M) (fun a'=>∀ w',St S M w'→Q .normal a' w') lo ⟨l.toArray,D⟩):(Code.region id lo.toArray true).wp P Q ⟨l.toArray,D⟩ w :=
 wp_region_quiet hm hB (by have:=V.drew;exact this) (by simpa using h)
theorem G5 {a} (h:K a):wpQuiet P ops (St S M) K [] a:=h
theorem AT {T x agg z zero bb b off c cs B} (hx:Ai l x=.pointer (some ⟨b,off,none⟩)) (k:Nat) (hk:M[k]? = some (.box b c B)) (hT:Ty P T agg z zero bb) (hc:(c.drop off).take z=cs) (hl:cs.length=z):Qt P l (.load T x) S M (DU agg cs):=fun dst ty pos af w V=>by
 simp only [execOp,hx,Sem.run_bind,Ka hT w b off cs (hc▸OR (V.get hk)) hl,Result.andThen_ok,Sem.run_pure]
theorem Aw {T x zero bb p} {y:α} (hx:Ai l x=p) (L:Pt S p y) (hT:Ty P T (Z.agg α) (Z.z α) zero bb):∃ v,(∃ cs,v=DU (Z.agg α) cs∧Z.R S cs y)∧Qt P l (.load T x) S M v:=by
 obtain ⟨b,o,c,B,fz,rfl,hb,hR⟩:=L;refine ⟨_,⟨_,rfl,hR⟩,fun dst ty pos af w V=>?_⟩;simp only [execOp,hx,Sem.run_bind,Ka hT w b o _ (Kf (V.has _ _ hb)) (Z.len hR),Result.andThen_ok,Sem.run_pure]
theorem Am {T x zero bb p y} (hx:Ai l x=p) (L:Pt S p y) (hT:Ty P T false 1 zero bb):
  ∃ v,(v=.int .i64 y∧Au y)∧Qt P l (.load T x) S M v:=by
 obtain ⟨v,⟨cs,rfl,rfl,hi⟩,hq⟩:=Aw (P:=P) (M:=M) hx L hT;exact ⟨_,⟨rfl,hi⟩,hq⟩
theorem I8 {T x zero bb p} {y:UInt8} (hx:Ai l x=p) (L:Pt S p y) (hT:Ty P T false 1 zero bb):
  Qt P l (.load T x) S M (.int .u8 y.toNat):=by
 obtain ⟨v,⟨cs,rfl,rfl⟩,hq⟩:=Aw (P:=P) (M:=M) hx L hT;exact hq
theorem AO {T x zero bb p} {y:Cv} (hx:Ai l x=p) (L:Pt S p y) (hT:Ty P T false 1 zero bb):
  ∃ v,(v=.string ⟨y.b.toArray⟩∧y.b.length≤maxLen)∧Qt P l (.load T x) S M v:=by
 obtain ⟨v,⟨cs,rfl,rfl,hi⟩,hq⟩:=Aw (P:=P) (M:=M) hx L hT;exact ⟨_,⟨rfl,hi⟩,hq⟩
theorem Aj {T x zero bb p} {y:List α} (hx:Ai l x=p) (L:Pt S p y) (hT:Ty P T false 1 zero bb):
  ∃ v,(RSl S v y∧v.oneCell'=true)∧Qt P l (.load T x) S M v:=by
 obtain ⟨v,⟨cs,rfl,u,rfl,hu⟩,hq⟩:=Aw (P:=P) (M:=M) hx L hT;exact ⟨u,⟨hu,hu.oneCell⟩,hq⟩
theorem Aq {T E x i agg zero bb v} {xs:List α} {k n} (hx:Ai l x=v) (hv:RSl S v xs) (hi:Ai l i=.int k n) (hT:SlT P T E) (hE:Ty P E agg (Z.z α) zero bb) (h0:0≤n) (hn:n.toNat < xs.length):∃ p,Pt S p (xs[n.toNat])∧Qt P l (.indexAddr T x i) S M p:=by
 rcases hv with ⟨_,_,_,rfl,_⟩|⟨b,o,cap,c,B,fz,rfl,hb,hc,hm,hRL⟩
 ·simp at hn
 ·refine ⟨.pointer (some ⟨b,o+n.toNat * Z.z α,none⟩),⟨b,_,c,B,fz,rfl,hb,?_⟩,fun dst ty pos af w V=>?_⟩
  ·have:=hRL.at_ n.toNat hn
   rw [List.drop_take,List.take_take,List.drop_drop,Nat.min_eq_left (by
    have:n.toNat * Z.z α+Z.z α≤xs.length * Z.z α:=by rw [← Nat.succ_mul];exact Nat.mul_le_mul_right _ hn
    omega)] at this
   exact this
  ·have hlt:n < xs.length:=by omega
   simp [execOp,hx,hi,Instr.indexAt,asIntOf,run_underlying hT.u,h0,hlt,hE.run_sizeOf,Addr.add_mid]
theorem EH {T E x v} {xs:List α} (hx:Ai l x=v) (hv:RSl S v xs) (hT:SlT P T E):
  Qt P l (.call { callee:=.builtin .len,args:=#[x],argTypes:=#[T] }) S M (.int .i64 xs.length):=fun dst ty pos af w V=>by
 rcases hv with ⟨ad,cap,rfl,rfl,_⟩|⟨b,o,cap,c,B,fz,rfl,hb,hc,hm,hRL⟩ <;>
  simp [execOp,resolve,invoke,builtin,hx,Builtin.len_,run_underlying hT.u,goInt]
theorem Et {T k off x b o} (hx:Ai l x=.pointer (some ⟨b,o,none⟩)) (hT:FldT P T k off):
  Qt P l (.fieldAddr T x k) S M (.pointer (some ⟨b,o+off,none⟩)):=fun dst ty pos af w V=>by
 simp only [execOp,hx,Sem.run_bind,Rm hT,Result.andThen_ok,Sem.run_pure]
theorem As {T:TypeId} {k off off':Nat} {get:α→β} {put:α→β→α} {x:Operand} {p:Value} {y:α} (hx:Ai l x=p) (L:Pt S p y) (hT:FldT P T k off) (_hF:HasF α k β off' get put) (ho:off=off') :
  ∃ q,Pt S q (get y)∧Qt P l (.fieldAddr T x k) S M q:=by
 subst ho;obtain ⟨b,o,c,B,fz,rfl,hb,hR⟩:=id L;exact ⟨_,Pt.field (k:=k) (put:=put) L,Et hx hT⟩
theorem A6 {T E n x i agg z zero bb b o k j} (hx:Ai l x=.pointer (some ⟨b,o,none⟩)) (hi:Ai l i=.int k j) (hT:ArrT P T n E) (hE:Ty P E agg z zero bb) (h0:0≤j) (hn:j.toNat < n):Qt P l (.indexAddr T x i) S M (.pointer (some ⟨b,o+j.toNat * z,none⟩)):=fun dst ty pos af w V=>by
 have hlt:j < n:=by omega
 simp [execOp,hx,hi,Instr.indexAt,asIntOf,run_underlying hT.u,Instr.sureAddr,h0,hlt,hE.run_sizeOf,Addr.add_mid]
theorem Nf {T E x i agg zero bb p} {y:α×α} {k} (hx:Ai l x=p) (L:Pt S p y) (hi:Ai l i=.int k 0) (hT:ArrT P T 2 E) (hE:Ty P E agg (Z.z α) zero bb):∃ q,Pt S q y.1∧Qt P l (.indexAddr T x i) S M q:=by
 obtain ⟨b,o,c,B,fz,rfl,hb,hR⟩:=id L;refine ⟨_,⟨b,o,c,B,fz,rfl,hb,?_⟩,by have:=A6 (S:=S) (M:=M) hx hi hT hE (by omega) (by omega);simpa using this⟩;have h1:Z.R S (((c.toList.drop o).take (Z.z α+Z.z α)).take (Z.z α)) y.1:=hR.2.1;rwa [List.take_take,Nat.min_eq_left (by omega)] at h1
theorem Nc {T E x i agg zero bb p} {y:α×α} {k} (hx:Ai l x=p) (L:Pt S p y) (hi:Ai l i=.int k 1) (hT:ArrT P T 2 E) (hE:Ty P E agg (Z.z α) zero bb):∃ q,Pt S q y.2∧Qt P l (.indexAddr T x i) S M q:=by
 obtain ⟨b,o,c,B,fz,rfl,hb,hR⟩:=id L;refine ⟨_,⟨b,o+Z.z α,c,B,fz,rfl,hb,?_⟩,by have:=A6 (S:=S) (M:=M) hx hi hT hE (by omega) (by omega);simpa using this⟩;have h1:Z.R S (((c.toList.drop o).take (Z.z α+Z.z α)).drop (Z.z α)) y.2:=hR.2.2;rwa [List.drop_take,List.drop_drop,show Z.z α+Z.z α - Z.z α=Z.z α from by omega] at h1
theorem F9 {T E x lo hi mx agg zero bb v} {xs:List α} {a b} (hx:Ai l x=v) (hv:RSl S v xs) (hT:SlT P T E) (hE:Ty P E agg (Z.z α) zero bb) (hl:Bd (lo.map (Ai l)) 0 a) (hh:Bd (hi.map (Ai l)) xs.length b) (hm:mx=none∨(∃ k m,mx.map (Ai l)=some (.int k (m:Nat))∧b≤m∧m≤xs.length∧hi.isSome=true)) (h1:a≤b) (h2:b≤xs.length):
  ∃ v',RSl S v' ((xs.drop a).take (b - a))∧Qt P l (.slice T x lo hi mx) S M v':=by
 obtain ⟨ad,cap,rfl,hc,_⟩:=hv.form;rcases hm with rfl|⟨k,m,hmx,hbm,hml,his⟩
 ·refine ⟨_,hv.sub rfl a b cap h1 h2 (by omega) (Nat.le_refl _),fun dst ty pos af w V=>?_⟩;simp only [execOp,hx,Sem.run_bind];rw [Fi hT hE hl hh (mx:=(none:Option Operand).map (Ai l)) (.inl ⟨rfl,rfl⟩) h1 (by omega) (Nat.le_refl _) (by simp)];rfl
 ·refine ⟨_,hv.sub rfl a b m h1 h2 hbm (by omega),fun dst ty pos af w V=>?_⟩;simp only [execOp,hx,Sem.run_bind];rw [Fi hT hE hl hh (m:=m) (.inr ⟨k,hmx⟩) h1 hbm (by omega) (by intro _;simpa using his)];rfl
theorem Ie {T E F x v} {k z n:Nat} {c} (hx:Ai l x=v) (hk:M[k]? = some (.sl v F z n c)) (hT:SlT P T E):
  Qt P l (.call { callee:=.builtin .len,args:=#[x],argTypes:=#[T] }) S M (.int .i64 n):=fun dst ty pos af w V=>by
 rcases (V.get hk).2 with ⟨rfl,rfl⟩|⟨g,cap,cur,fz,rfl,_⟩ <;>
  simp [execOp,resolve,invoke,builtin,hx,Builtin.len_,run_underlying hT.u,goInt]
theorem G4 {T F x agg z zero bb v p} {o k zz n:Nat} {c cs} (hx:Ai l x=p) (L:JY v p o) (hk:M[k]? = some (.sl v F zz n c)) (hT:Ty P T agg z zero bb) (hc:(c.drop o).take z=cs) (hl:o+z≤c.length):Qt P l (.load T x) S M (DU agg cs):=fun dst ty pos af w V=>by
 obtain ⟨g,n',cap',rfl,rfl⟩:=L;have h0:=V.get hk;rcases h0.2 with ⟨e,_⟩|⟨g',cap,cur,fz,e,hg,hfz,hnc,hcm,hcs,htk⟩
 ·cases e
 ·obtain ⟨rfl,rfl,rfl⟩:g=g'∧n'=n∧cap'=cap:=by simpa using e
  have hlen:cs.length=z:=by rw [← hc];simp;omega
  have hr:w.rangeAt g o cs:=by
   have:=Kf (o:=o) (n:=z) hg;rw [← hc,← htk];rw [← htk] at hl;simp only [List.length_take] at hl;rw [List.drop_take,List.take_take,Nat.min_eq_left (by omega)];exact this
  simp only [execOp,hx,Sem.run_bind,Ka hT w g o cs hr hlen,Result.andThen_ok,Sem.run_pure]
theorem P1 {T kf off x v p o} (hx:Ai l x=p) (L:JY v p o) (hT:FldT P T kf off):
  ∃ q,JY v q (o+off)∧Qt P l (.fieldAddr T x kf) S M q:=by
 obtain ⟨g,n,cap,rfl,rfl⟩:=L;exact ⟨_,⟨g,n,cap,rfl,rfl⟩,Et hx hT⟩
theorem Ao {T E F x i agg zero bb v} {k z n:Nat} {c kk j} (V:St S M w) (hx:Ai l x=v) (hk:M[k]? = some (.sl v F z n c)) (hi:Ai l i=.int kk j) (hT:SlT P T E) (hE:Ty P E agg z zero bb) (h0:0≤j) (hn:j.toNat < n):∃ p,JY v p (j.toNat * z)∧Qt P l (.indexAddr T x i) S M p:=by
 rcases (V.get hk).2 with ⟨rfl,rfl⟩|⟨g,cap,cur,fz,rfl,_⟩
 ·omega
 ·refine ⟨.pointer (some ⟨g,j.toNat * z,none⟩),⟨g,n,cap,rfl,rfl⟩,fun dst ty pos af w _=>?_⟩;have hlt:j < n:=by omega
  simp [execOp,hx,hi,Instr.indexAt,asIntOf,run_underlying hT.u,h0,hlt,hE.run_sizeOf,Addr.add_mid]
theorem kq_plain {o a} (_h:R9 o.op=true) (g:wpQuiet P ops (St S M) K (o::rest) a):wpQuiet P ops (St S M) K (o::rest) a:=g
theorem Dn {x v} (hx:Ai l x=v):Qt P l (.move x) S M v:=fun dst ty pos af w _=>by simp [execOp,hx]
theorem OW {x v} (hx:Ai l x=v):Qt P l (.assign x) S M v:=fun dst ty pos af w _=>by simp [execOp,hx]
theorem OT {c x y v} (hc:Ai l c=.bool true) (hx:Ai l x=v):Qt P l (.pick c x y) S M v:=fun dst ty pos af w _=>by simp [execOp,hc,hx,asBool]
theorem KU {c x y v} (hc:Ai l c=.bool false) (hy:Ai l y=v):Qt P l (.pick c x y) S M v:=fun dst ty pos af w _=>by simp [execOp,hc,hy,asBool]
theorem P0 {T x b} (hx:Ai l x=.bool b):Qt P l (.unOp .not T x) S M (.bool (!b)):=fun dst ty pos af w _=>by simp [execOp,hx,Op.unary]
theorem fq {T U x y k a b} (hx:Ai l x=.int k a) (hy:Ai l y=.int k b):Qt P l (.binOp .lss T x y U) S M (.bool (decide (a < b))):=fun dst ty pos af w _=>by
 simp [execOp,hx,hy,binOp_lss,eqGuard_at_int]
theorem ft {T U x y k a b} (hx:Ai l x=.int k a) (hy:Ai l y=.int k b):Qt P l (.binOp .leq T x y U) S M (.bool (decide (a≤b))):=fun dst ty pos af w _=>by
 simp [execOp,hx,hy,binOp_leq,eqGuard_at_int]
theorem fu {T U x y k a b} (hx:Ai l x=.int k a) (hy:Ai l y=.int k b):Qt P l (.binOp .gtr T x y U) S M (.bool (decide (a > b))):=fun dst ty pos af w _=>by
 simp [execOp,hx,hy,binOp_gtr,eqGuard_at_int]
theorem fw {T U x y k a b} (hx:Ai l x=.int k a) (hy:Ai l y=.int k b):Qt P l (.binOp .geq T x y U) S M (.bool (decide (a≥b))):=fun dst ty pos af w _=>by
 simp [execOp,hx,hy,binOp_geq,eqGuard_at_int]
theorem fx {T U x y k a b} (hx:Ai l x=.int k a) (hy:Ai l y=.int k b):Qt P l (.binOp .eql T x y U) S M (.bool (a == b)):=fun dst ty pos af w _=>by
 simp [execOp,hx,hy,binOp_eql,eqGuard_at_int]
theorem VO {T U x y k a b} (hx:Ai l x=.int k a) (hy:Ai l y=.int k b):Qt P l (.binOp .neq T x y U) S M (.bool (a != b)):=fun dst ty pos af w _=>by
 simp [execOp,hx,hy,binOp_neq,eqGuard_at_int]
theorem fy {T U x y k a b} (hx:Ai l x=.int k a) (hy:Ai l y=.int k b):Qt P l (.binOp .add T x y U) S M (.int k (k.wrap (a+b))):=fun dst ty pos af w _=>by
 simp [execOp,hx,hy,binOp_add,eqGuard_add,Op.intArith]
theorem DC {T U x y a b} (hx:Ai l x=.int .i64 a) (hy:Ai l y=.int .i64 b) (hw: -9223372036854775808≤a+b∧a+b≤9223372036854775807):Qt P l (.binOp .add T x y U) S M (.int .i64 (a+b)):=by
 have:=fy (P:=P) (S:=S) (M:=M) (T:=T) (U:=U) hx hy;rwa [show IntKind.i64.wrap (a+b)=a+b from by rw [IntKind.wrap_i64];omega] at this
theorem fm {T U x y k a b} (hx:Ai l x=.int k a) (hy:Ai l y=.int k b):Qt P l (.binOp .sub T x y U) S M (.int k (k.wrap (a - b))):=fun dst ty pos af w _=>by
 simp [execOp,hx,hy,binOp_sub,eqGuard_sub,Op.intArith]
theorem DY {T U x y a b} (hx:Ai l x=.int .i64 a) (hy:Ai l y=.int .i64 b) (hw: -9223372036854775808≤a - b∧a - b≤9223372036854775807):Qt P l (.binOp .sub T x y U) S M (.int .i64 (a - b)):=by
 have:=fm (P:=P) (S:=S) (M:=M) (T:=T) (U:=U) hx hy;rwa [show IntKind.i64.wrap (a - b)=a - b from by rw [IntKind.wrap_i64];omega] at this
theorem fp {T U x y k a b} (hx:Ai l x=.int k a) (hy:Ai l y=.int k b):Qt P l (.binOp .mul T x y U) S M (.int k (k.wrap (a * b))):=fun dst ty pos af w _=>by
 simp [execOp,hx,hy,binOp_mul,eqGuard_mul,Op.intArith]
theorem R6 {T U x y a b} (hx:Ai l x=.int .i64 a) (hy:Ai l y=.int .i64 b) (hw: -9223372036854775808≤a * b∧a * b≤9223372036854775807):Qt P l (.binOp .mul T x y U) S M (.int .i64 (a * b)):=by
 have:=fp (P:=P) (S:=S) (M:=M) (T:=T) (U:=U) hx hy;rwa [show IntKind.i64.wrap (a * b)=a * b from by rw [IntKind.wrap_i64];omega] at this
theorem Fy {x y ats k k' a b} (hx:Ai l x=.int k a) (hy:Ai l y=.int k' b):Qt P l (.call { callee:=.builtin .max,args:=#[x,y],argTypes:=ats }) S M (.int k (max a b)):=fun dst ty pos af w _=>by
 have:(if b > a then b else a)=max a b:=by omega
 simp [execOp,resolve,invoke,builtin,hx,hy,Builtin.max_,Builtin.max2,List.foldlM,this]
theorem VP {x y ats k k' a b} (hx:Ai l x=.int k a) (hy:Ai l y=.int k' b):Qt P l (.call { callee:=.builtin .min,args:=#[x,y],argTypes:=ats }) S M (.int k (min a b)):=fun dst ty pos af w _=>by
 have:(if b < a then b else a)=min a b:=by omega
 simp [execOp,resolve,invoke,builtin,hx,hy,Builtin.min_,Builtin.min2,List.foldlM,this]
def G0 (P:Program) (l:List Value) (w:World):ResultVar→Value→Prop
 | .tmp t,v=>AV l t=v
 | .cell a T,v=>∃ ad,AV l a=.pointer (some ad)∧(loadVar T ad).run P w=.ok v w
theorem A8 {t v} (h:AV l t=v):G0 P l w (.tmp t) v:=h
theorem AZ {a T agg z zero bb b off c cs B} (V:St S M w) (hx:AV l a=.pointer (some ⟨b,off,none⟩)) (k:Nat) (hk:M[k]? = some (.box b c B)) (hT:Ty P T agg z zero bb) (hc:(c.drop off).take z=cs) (hl:cs.length=z):G0 P l w (.cell a T) (DU agg cs) :=
 ⟨_,hx,by
  have:=Ka hT w b off cs (hc▸OR (V.get hk)) hl
  simpa only [Instr.loadAt,Instr.sureAddr,Sem.run_bind,Sem.run_pure,Result.andThen_ok] using this⟩
theorem GP {fn} {R:Ending→World→Prop} {r v} (hr:fn.results = #[r]) (h:G0 P l w r v) (hR:R (.returned v) w):bodyPost P fn R .ret ⟨l.toArray,[]⟩ w:=by
 refine bodyPost_ret (v:=v) ?_ rfl hR;have hn:∀ t,AV l t=l[t]?.getD undef:=fun t=>by simp [EI]
 cases r<;>simp only [G0,hn] at h<;>(try obtain ⟨ad,h,k⟩:=h)<;>simp_all [results,asAddr]
theorem Bl {fn} {R:Ending→World→Prop} {a T agg z zero bb b off c cs B} (hr:fn.results = #[.cell a T]) (V:St S M w) (hx:AV l a=.pointer (some ⟨b,off,none⟩)) (k:Nat) (hk:M[k]? = some (.box b c B)) (hT:Ty P T agg z zero bb) (hc:(c.drop off).take z=cs) (hl:cs.length=z) (hR:R (.returned (DU agg cs)) w):bodyPost P fn R .ret ⟨l.toArray,[]⟩ w :=
 GP hr (AZ V hx k hk hT hc hl) hR
theorem Bc {fn} {R:Ending→World→Prop} {r1 r2 v1 v2} (hr:fn.results = #[r1,r2]) (h1:G0 P l w r1 v1) (h2:G0 P l w r2 v2) (hR:R (.returned (.tuple #[v1,v2])) w):bodyPost P fn R .ret ⟨l.toArray,[]⟩ w:=by
 refine bodyPost_ret (v:=.tuple #[v1,v2]) ?_ rfl hR;have hn:∀ t,AV l t=l[t]?.getD undef:=fun t=>by simp [EI]
 cases r1<;>cases r2<;>simp only [G0,hn] at h1 h2<;>(try obtain ⟨ad,h1,k1⟩:=h1)<;>(try obtain ⟨ad2,h2,k2⟩:=h2)<;>simp_all [results,asAddr]
theorem k_load {x:Operand} {T:TypeId} {g:Option (Nat×Bool)} {a:Act} (h:wpList P ops Q (⟨dd,.load T x,ty,pos,af,g⟩::rest) a w):wpList P ops Q (⟨dd,.load T x,ty,pos,af,g⟩::rest) a w:=h
theorem k_store {x y:Operand} {T:TypeId} {g:Option (Nat×Bool)} {a:Act} (h:wpList P ops Q (⟨dd,.store T x y,ty,pos,af,g⟩::rest) a w):wpList P ops Q (⟨dd,.store T x y,ty,pos,af,g⟩::rest) a w:=h
theorem k_index {x y:Operand} {T:TypeId} {g:Option (Nat×Bool)} {a:Act} (h:wpList P ops Q (⟨dd,.indexAddr T x y,ty,pos,af,g⟩::rest) a w):wpList P ops Q (⟨dd,.indexAddr T x y,ty,pos,af,g⟩::rest) a w:=h
theorem k_field {x:Operand} {T:TypeId} {k:Nat} {g:Option (Nat×Bool)} {a:Act} (h:wpList P ops Q (⟨dd,.fieldAddr T x k,ty,pos,af,g⟩::rest) a w):wpList P ops Q (⟨dd,.fieldAddr T x k,ty,pos,af,g⟩::rest) a w:=h
theorem k_call {c:Call} {g:Option (Nat×Bool)} {a:Act} (h:wpList P ops Q (⟨dd,.call c,ty,pos,af,g⟩::rest) a w):wpList P ops Q (⟨dd,.call c,ty,pos,af,g⟩::rest) a w:=h
theorem k_bin {b:BinOp} {x y:Operand} {T U:TypeId} {g:Option (Nat×Bool)} {a:Act} (h:wpList P ops Q (⟨dd,.binOp b T x y U,ty,pos,af,g⟩::rest) a w):wpList P ops Q (⟨dd,.binOp b T x y U,ty,pos,af,g⟩::rest) a w:=h
theorem k_guard {op:Op} {g:Nat×Bool} {a:Act} (h:wpList P ops Q (⟨dd,op,ty,pos,af,some g⟩::rest) a w):wpList P ops Q (⟨dd,op,ty,pos,af,some g⟩::rest) a w:=h
theorem kq_load {x:Operand} {T:TypeId} {g:Option (Nat×Bool)} {a:Act} (h:wpQuiet P ops (St S M) K (⟨dd,.load T x,ty,pos,af,g⟩::rest) a):wpQuiet P ops (St S M) K (⟨dd,.load T x,ty,pos,af,g⟩::rest) a:=h
theorem kq_index {x y:Operand} {T:TypeId} {g:Option (Nat×Bool)} {a:Act} (h:wpQuiet P ops (St S M) K (⟨dd,.indexAddr T x y,ty,pos,af,g⟩::rest) a):wpQuiet P ops (St S M) K (⟨dd,.indexAddr T x y,ty,pos,af,g⟩::rest) a:=h
theorem kq_field {x:Operand} {T:TypeId} {k:Nat} {g:Option (Nat×Bool)} {a:Act} (h:wpQuiet P ops (St S M) K (⟨dd,.fieldAddr T x k,ty,pos,af,g⟩::rest) a):wpQuiet P ops (St S M) K (⟨dd,.fieldAddr T x k,ty,pos,af,g⟩::rest) a:=h
theorem kq_call {c:Call} {g:Option (Nat×Bool)} {a:Act} (h:wpQuiet P ops (St S M) K (⟨dd,.call c,ty,pos,af,g⟩::rest) a):wpQuiet P ops (St S M) K (⟨dd,.call c,ty,pos,af,g⟩::rest) a:=h
theorem kq_guard {op:Op} {g:Nat×Bool} {a:Act} (h:wpQuiet P ops (St S M) K (⟨dd,op,ty,pos,af,some g⟩::rest) a):wpQuiet P ops (St S M) K (⟨dd,op,ty,pos,af,some g⟩::rest) a:=h
end
variable {P:Program}
def FF:Value→Lit
 | .bool b=>.bool b
 | .int k n=>.int k n
 | .string s=>.string s.data.toList
 | _=>.bool false
def Fk:Value→Bool
 | .bool _|.int _ _|.string _=>true
 | _=>false
theorem Y6 {u v} (hu:Fk u=true) (hv:Fk v=true) (h:FF u=FF v):u=v:=by
 cases u<;>simp [Fk] at hu<;>cases v<;>simp [Fk] at hv<;>simp_all [FF]
 rename_i a b
 cases a;cases b
 simp_all
theorem K6:∀ {a b:List Value},a.all Fk=true→b.all Fk=true→a.map FF=b.map FF→a=b
 | [],[],_,_,_=>rfl
 | [],_::_,_,_,h=>by simp at h
 | _::_,[],_,_,h=>by simp at h
 | u::a,v::b,ha,hb,h=>by
  simp only [List.all_cons,Bool.and_eq_true] at ha hb;simp only [List.map_cons,List.cons.injEq] at h;rw [Y6 ha.1 hb.1 h.1,K6 ha.2 hb.2 h.2]
class Key (P:Program) (T:TypeId) (α:Type) [Z α] (d:outParam Nat):Prop where
 key:∀ {S:Ad} {cs:List Value} {x:α} (D:Nat),d≤D→Z.R S cs x→P.keyLits D T cs=some (cs.map FF)
 flat:∀ {S S':Ad} {cs cs':List Value} {x:α},Z.R S cs x→Z.R S' cs' x→cs=cs'
 inj:∀ {S S':Ad} {cs:List Value} {x y:α},Z.R S cs x→Z.R S' cs y→x=y
 lits:∀ {S:Ad} {cs:List Value} {x:α},Z.R S cs x→cs.all Fk=true
theorem Key.iff {T} {α:Type} [Z α] {d} (k:Key P T α d) {S S' cs cs'} {x y:α} (h:Z.R S cs x) (h':Z.R S' cs' y):cs.map FF=cs'.map FF↔x=y:=by
 constructor
 ·intro e;obtain rfl:=K6 (k.lits h) (k.lits h') e;exact k.inj h h'
 ·rintro rfl;rw [k.flat h h']
theorem LH {T:TypeId} (hu:P.underlying T=some (.int .i64)):Key P T Int 1 where
 key D hd h:=by
  obtain ⟨D,rfl⟩:∃ q,D=q+1:=⟨D - 1,by omega⟩
  obtain ⟨rfl,hi⟩:=h;have:(Lit.int .i64 _).wf=true:=WalkArith.wf_i64 hi;simp [Program.keyLits,hu,FF,this]
 flat h h':=by rw [h.1,h'.1]
 inj h h':=by have:=h.1.symm.trans h'.1;simpa using this
 lits h:=by rw [h.1];rfl
theorem fY {T:TypeId} (hu:P.underlying T=some (.int .u8)):Key P T UInt8 1 where
 key D hd h:=by
  obtain ⟨D,rfl⟩:∃ q,D=q+1:=⟨D - 1,by omega⟩
  rename_i S cs x;obtain rfl:cs=[.int .u8 x.toNat]:=h;have hx:=x.toNat_lt;have:(Lit.int .u8 (x.toNat:Int)).wf=true:=by simp [Lit.wf,IntKind.min,IntKind.max,IntKind.signed,IntKind.bits];omega
  simp [Program.keyLits,hu,FF,this]
 flat h h':=by rw [show _=_ from h,show _=_ from h']
 inj h h':=by
  have:=(show _=_ from h).symm.trans h';simp only [List.cons.injEq,Value.int.injEq,true_and,and_true] at this;exact UInt8.toNat_inj.1 (by omega)
 lits h:=by rw [show _=_ from h];rfl
section
variable {α β:Type} [Z α] [Z β]
theorem RL.flat {S S' cs cs'} {xs:List α} (hf:∀ {cs cs':List Value} {x:α},Z.R S cs x→Z.R S' cs' x→cs=cs') (h:RL S cs xs) (h':RL S' cs' xs):cs=cs':=by
 have hl:cs.length=cs'.length:=by rw [h.1,h'.1]
 apply List.ext_getElem hl;intro j hj hj'
 have hz:0 < Z.z α:=by
  rcases Nat.eq_zero_or_pos (Z.z α) with e|e
  ·have:=h.1;rw [e] at this;simp at this;subst this;simp at hj
  ·exact e
 have hi:j / Z.z α < xs.length:=by rw [Nat.div_lt_iff_lt_mul hz,← h.1];exact hj
 have e:=hf (h.at_ _ hi) (h'.at_ _ hi);have:=congrArg (·[j % Z.z α]?) e;simp only [List.getElem?_take,Nat.mod_lt _ hz,if_true,List.getElem?_drop,Nat.div_add_mod'] at this;rw [List.getElem?_eq_getElem hj,List.getElem?_eq_getElem hj'] at this;exact Option.some.inj this
theorem RL.inj {S S' cs} {xs ys:List α} (hf:∀ {cs:List Value} {x y:α},Z.R S cs x→Z.R S' cs y→x=y) (hz:0 < Z.z α) (h:RL S cs xs) (h':RL S' cs ys):xs=ys:=by
 have hl:xs.length=ys.length:=Nat.eq_of_mul_eq_mul_right hz (h.1.symm.trans h'.1);apply List.ext_getElem hl;intro j hj hj';exact hf (h.at_ j hj) (h'.at_ j hj')
theorem RL.lits {S cs} {xs:List α} (hf:∀ {cs:List Value} {x:α},Z.R S cs x→cs.all Fk=true) (h:RL S cs xs):cs.all Fk=true:=by
 rw [List.all_eq_true];intro u hu;obtain ⟨j,hj,rfl⟩:=List.mem_iff_getElem.1 hu
 have hz:0 < Z.z α:=by
  rcases Nat.eq_zero_or_pos (Z.z α) with e|e
  ·have:=h.1;rw [e] at this;simp at this;subst this;simp at hj
  ·exact e
 have hi:j / Z.z α < xs.length:=by rw [Nat.div_lt_iff_lt_mul hz,← h.1];exact hj
 have:=List.all_eq_true.1 (hf (h.at_ _ hi)) cs[j] (List.mem_iff_getElem?.2 ⟨j % Z.z α,by
  rw [List.getElem?_take,if_pos (Nat.mod_lt _ hz),List.getElem?_drop,Nat.div_add_mod',List.getElem?_eq_getElem hj]⟩)
 exact this
theorem NH (z:Nat):∀ (n:Nat) (cs:List Value),cs.length=n * z→((List.range n).map fun i=>(cs.drop (i * z)).take z).flatten=cs
 | 0,cs,h=>by simp at h;subst h;simp
 | n+1,cs,h=>by
  rw [Nat.succ_mul] at h;rw [List.range_succ_eq_map,List.map_cons,List.flatten_cons,List.map_map];have ih:=NH z n (cs.drop z) (by simp;omega)
  have e:((fun i=>(cs.drop (i * z)).take z) ∘ Nat.succ)=fun i=>((cs.drop z).drop (i * z)).take z:=by
   funext i
   simp only [Function.comp_apply,List.drop_drop,Nat.succ_mul];rw [Nat.add_comm]
  rw [e,ih];simp
theorem O2 {γ δ:Type} {f:γ→Option δ} {g:γ→δ}:∀ {l:List γ},(∀ i∈l,f i=some (g i))→l.mapM f=some (l.map g)
 | [],_=>by simp
 | a::l,h=>by
  rw [List.mapM_cons,h a (.head _),O2 (l:=l) (fun i hi=>h i (.tail _ hi))];rfl
theorem O4 {T E n d} (hT:ArrT P T n E) (hz:P.cellsOf E=Z.z α) (hz':P.cellsOf T=n * Z.z α) (k:Key P E α d) {S cs} {xs:List α} (hl:xs.length=n) (h:RL S cs xs) (D) (hD:d+1≤D):
  P.keyLits D T cs=some (cs.map FF):=by
 obtain ⟨D,rfl⟩:∃ q,D=q+1:=⟨D - 1,by omega⟩
 subst hl
 have hm:(List.range xs.length).mapM (fun i=>P.keyLits D E ((cs.drop (i * Z.z α)).take (Z.z α)))=some ((List.range xs.length).map fun i=>((cs.drop (i * Z.z α)).take (Z.z α)).map FF) :=
  O2 fun i hi=>k.key D (by omega) (h.at_ i (List.mem_range.1 hi))
 have hc:=NH (Z.z α) xs.length cs h.1;simp only [Program.keyLits,hT.u,hz,h.1,hz',if_true,hm,Option.map_some]
 congr 1
 rw [show (fun i=>((cs.drop (i * Z.z α)).take (Z.z α)).map FF)=List.map FF ∘ (fun i=>(cs.drop (i * Z.z α)).take (Z.z α)) from rfl,← List.map_map,← List.map_flatten,hc]
theorem dw {T E:TypeId} {n d:Nat} (hT:ArrT P T n E) (hz:P.cellsOf E=Z.z α) (hz':P.cellsOf T=n * Z.z α) (L:0 < Z.z α) [k:Key P E α d]:Key P T (H7 α n) (d+1) where
 key D hD h:=O4 hT hz hz' k h.1 h.2 D hD
 flat h h':=RL.flat (fun a b=>k.flat a b) h.2 h'.2
 inj {S S' cs x y} h h':=by
  have:=RL.inj (fun a b=>k.inj a b) L h.2 h'.2
  cases x;cases y;simp_all
 lits h:=RL.lits (fun a=>k.lits a) h.2
theorem It {S cs} {x:α×α} (h:Z.R S cs x):RL S cs [x.1,x.2]:=by
 obtain ⟨hl,h1,h2⟩:=h;have:=RL.append (RL.one_mk h1) (RL.one_mk h2);rwa [List.take_append_drop] at this
theorem Mx {T E:TypeId} {d:Nat} (hT:ArrT P T 2 E) (hz:P.cellsOf E=Z.z α) (hz':P.cellsOf T=2 * Z.z α) (L:0 < Z.z α) [k:Key P E α d]:Key P T (α×α) (d+1) where
 key D hD h:=O4 hT hz hz' k rfl (It h) D hD
 flat h h':=RL.flat (fun a b=>k.flat a b) (It h) (It h')
 inj {S S' cs x y} h h':=by
  have:=RL.inj (fun a b=>k.inj a b) L (It h) (It h')
  cases x;cases y;simp_all
 lits h:=RL.lits (fun a=>k.lits a) (It h)
class KeyFs (P:Program) (fs:List Field) (off:Nat) (β:Type) [Z β] (d:outParam Nat):Prop where
 key:∀ {S:Ad} {cs:List Value} {y:β} (D:Nat),d≤D→cs.length=off+Z.z β→Z.R S (cs.drop off) y →
  ∃ ls,fs.mapM (fun f=>P.keyLits D f.type ((cs.drop f.offset).take (P.cellsOf f.type)))=some ls∧ls.flatten=(cs.drop off).map FF
 flat:∀ {S S':Ad} {cs cs':List Value} {x:β},Z.R S cs x→Z.R S' cs' x→cs=cs'
 inj:∀ {S S':Ad} {cs:List Value} {x y:β},Z.R S cs x→Z.R S' cs y→x=y
 lits:∀ {S:Ad} {cs:List Value} {x:β},Z.R S cs x→cs.all Fk=true
theorem Lb {off:Nat}:KeyFs P [] off Unit 0 where
 key D _ hl h:=⟨[],by simp,by have e:List.drop off _=[]:=h;rw [e];rfl⟩
 flat h h':=by rw [show _=_ from h,show _=_ from h']
 inj _ _:=rfl
 lits h:=by rw [show _=_ from h];rfl
theorem Ds {f:Field} {fs:List Field} {off d d':Nat} (ho:f.offset=off) (hz:P.cellsOf f.type=Z.z α) [ka:Key P f.type α d] [kb:KeyFs P fs (off+Z.z α) β d']:KeyFs P (f::fs) off (α×β) (max d d') where
 key {S cs y} D hD hl h:=by
  subst ho;have hzz:Z.z (α×β)=Z.z α+Z.z β:=rfl;obtain ⟨ls,h1,h2⟩:=kb.key (S:=S) (cs:=cs) (y:=y.2) D (by omega) (by omega) (by have:=h.2.2;rwa [List.drop_drop] at this);refine ⟨((cs.drop f.offset).take (Z.z α)).map FF::ls,?_,?_⟩
  ·rw [List.mapM_cons,hz,ka.key D (by omega) h.2.1,h1];rfl
  ·rw [List.flatten_cons,h2,← List.map_append,← List.drop_drop,List.take_append_drop]
 flat {S S' cs cs' x} h h':=by
  rw [← List.take_append_drop (Z.z α) cs,← List.take_append_drop (Z.z α) cs',ka.flat h.2.1 h'.2.1,kb.flat h.2.2 h'.2.2]
 inj {S S' cs x y} h h':=Prod.ext (ka.inj h.2.1 h'.2.1) (kb.inj h.2.2 h'.2.2)
 lits {S cs x} h:=by
  rw [← List.take_append_drop (Z.z α) cs,List.all_append,ka.lits h.2.1,kb.lits h.2.2];rfl
theorem Km {T:TypeId} {fs:Array Field} {d:Nat} (hT:P.underlying T=some (.struct fs)) (hz:P.cellsOf T=Z.z α) (hn:fs.all (·.name != "_")=true) (k:KeyFs P fs.toList 0 α d):Key P T α (d+1) where
 key {S cs x} D hD h:=by
  obtain ⟨D,rfl⟩:∃ q,D=q+1:=⟨D - 1,by omega⟩
  obtain ⟨ls,h1,h2⟩:=k.key (S:=S) (cs:=cs) (y:=x) D (by omega) (by rw [Z.len h];omega) (by simpa using h);simp only [Program.keyLits,hT,hz,Z.len h,hn,and_self,if_true,h1,Option.map_some,h2,List.drop_zero]
 flat h h':=k.flat h h'
 inj h h':=k.inj h h'
 lits h:=k.lits h
theorem Df {S a b} (ha:Au a) (hb:Au b):Z.R S [.int .i64 a,.int .i64 b] (a,b):=⟨rfl,⟨rfl,ha⟩,⟨rfl,hb⟩⟩
class EqTy (P:Program) (T:TypeId):Prop where
 k:P.keyTypeAt 20 T=true
 g:P.eqGuardType P.depth T=false
 a:(P.underlying T).map (fun d=>match d with|.struct _|.array _ _=>true|_=>false)=some true
variable {l:List Value} {S:Ad} {M:List J}
theorem M5 {T d} (hE:EqTy P T) (hz:P.cellsOf T=Z.z α) (k:Key P T α d) [DecidableEq α] {S S' cs cs'} {x y:α} (h:Z.R S cs x) (h':Z.R S' cs' y) (w):
  (Op.equalIn 10000 T (.agg cs.toArray) (.agg cs'.toArray)).run P w=.ok (decide (x=y)) w:=by
 have ha:=hE.a
 have hform:∀ q:List Value,q.length=Z.z α→(Value.agg q.toArray).formed P T=true:=by
  intro q hq
  cases hu:P.underlying T with
  | none=>simp [hu] at ha
  | some dd=>rw [hu] at ha;cases dd<;>simp_all [Value.formed]
 obtain ⟨r,hr,hiff⟩:=run_equalIn_deep (P:=P) 9980 20 T hE.k w d d _ _ _ _ (hform cs (Z.len h)) (hform cs' (Z.len h')) (by simpa [Value.cells] using k.key d (Nat.le_refl _) h) (by simpa [Value.cells] using k.key d (Nat.le_refl _) h');rw [hr]
 congr 1
 rw [k.iff h h'] at hiff;by_cases e:x=y
 ·rw [decide_eq_true e,hiff.2 e]
 ·rw [decide_eq_false e];cases r<;>simp_all
theorem JP {T U d a b agg zero bb cs cs'} {x y:α} (ha:Ai l a=.agg cs.toArray) (hb:Ai l b=.agg cs'.toArray) (h:Z.R S cs x) (h':Z.R S cs' y) (hT:Ty P T agg (Z.z α) zero bb) (hE:EqTy P T) (k:Key P T α d) [DecidableEq α]:
  Qt P l (.binOp .eql T a b U) S M (.bool (decide (x=y))):=fun dst ty pos af w _=>by
 have:=M5 hE (Kr hT) k h h' w;simp [execOp,ha,hb,run_eqGuard_agg _ _ _ _ _ _ _ hE.g,run_eql_struct,this]
theorem bO {T U d a b agg zero bb cs cs'} {x y:α} (ha:Ai l a=.agg cs.toArray) (hb:Ai l b=.agg cs'.toArray) (h:Z.R S cs x) (h':Z.R S cs' y) (hT:Ty P T agg (Z.z α) zero bb) (hE:EqTy P T) (k:Key P T α d) [DecidableEq α]:
  Qt P l (.binOp .neq T a b U) S M (.bool (!decide (x=y))):=fun dst ty pos af w _=>by
 have:=M5 hE (Kr hT) k h h' w;simp [execOp,ha,hb,run_eqGuard_agg _ _ _ _ _ _ _ hE.g,run_neq_struct,this]
end
end Go.Sl
namespace Go.Sl
section
variable {P:Program} {ops:Array Oper} {md:Region.Mode} {C:World→Prop}
def LI (P:Program) (md:Region.Mode) (ops:Array Oper) (C:World→Prop) (n:Nat) (Lqq:Array Bool→Act→Prop):Nat→Array Bool→Act→Prop
 | 0,d,a=>Lqq d a
 | f+1,d,a=>Region.ready md ops d≠[]∧∀ i∈Region.ready md ops d,i < n∧qOp P ops C i (LI P md ops C n Lqq f (d.setIfInBounds i true)) a
theorem Ws {n g} {Lqq:Array Bool→Act→Prop} {Q':Exit→Act→World→Prop} (hL:∀ d a w,C w→Lqq d a→wpAny P md ops Q' g d a w) (f):
  ∀ (d:Array Bool) (a:Act) (w:World),C w→LI P md ops C n Lqq f d a→wpAny P md ops Q' (f+g) d a w:=by
 induction f with
 | zero=>intro d a w hw h;rw [Nat.zero_add];exact hL _ _ _ hw h
 | succ f ih =>
  intro d a w hw h;rw [show f+1+g=(f+g)+1 by omega];exact ⟨fun e=>(h.1 e).elim,fun i hi=>wpOp_of_qOp hw (fun a' w' hw' h'=>ih _ a' w' hw' h') (h.2 i hi).2⟩
theorem Uk {n i o v} {Lqq:Array Bool→Act→Prop} (hi:ops[i]? = some o) (hsel:∀ (j:Nat) (o:Oper) cs b,ops[j]? = some o→o.op≠.select cs b) (hs:Region.sinkB md ops n=true) (hc:Region.chainB md ops n=true) (hn:n < ops.size) (hin:i < n) (hend:∀ d a,Lqq d a→∀ j∈Region.ready md ops d,n≤j) (f):
  ∀ (d:Array Bool) (a:Act),HeadInv md ops n d →
   (∀ j oj,ops[j]? = some oj→j≠i→d.getD j true=false→(∀ e∈oj.after,Region.binds md e=true→e.on≠i)→o.apart ops oj=true) →
   i∈Region.ready md ops d→YieldsIn P ops C o v a →
   LI P md ops C n Lqq f (d.setIfInBounds i true) (a.put o.dst v)→LI P md ops C n Lqq (f+1) d a:=by
 induction f with
 | zero =>
  intro d a inv _ hr hy H;refine ⟨fun e=>by simp [e] at hr,fun j hj=>?_⟩;have hjn:j < n:=Nat.lt_of_not_le fun h=>tail_waits hs hc hn inv _ i rfl hin (mem_ready.1 hr).1 j h hj
  by_cases hji:j=i
  ·subst hji;exact ⟨hjn,hy.qOp hi H⟩
  ·exact absurd (hend _ _ H j (ready_mono hj hji)) (by omega)
 | succ f ih =>
  intro d a inv hfree hr hy H;have hun:=(mem_ready.1 hr).1;refine ⟨fun e=>by simp [e] at hr,fun j hj=>?_⟩;have hjn:j < n:=Nat.lt_of_not_le fun h=>tail_waits hs hc hn inv _ i rfl hin hun j h hj
  refine ⟨hjn,?_⟩;by_cases hji:j=i
  ·subst hji;exact hy.qOp hi H
  ·obtain ⟨hju,oj,hoj,hall⟩:=mem_ready.1 hj
   have hno:∀ e∈oj.after,Region.binds md e=true→e.on≠i:=fun e he hb q=>by
    have:=hall e he hb;rw [q,getD_both hun] at this;cases this
   refine qOp_mono (fun a' h3=>ih (d.setIfInBounds j true) a' (inv.set hj hjn) (fun k ok hk hki hku hk2=>?_) (ready_mono hr (Ne.symm hji)) h3.1 ?_)
    (qOp_put hoj (hfree j oj hoj hji hju hno) (fun cs b=>hsel i o cs b hi) (fun cs b=>hsel j oj cs b hoj) hy (H.2 j (ready_mono hj hji)).2)
   ·refine hfree k ok hk hki ?_ hk2;by_cases hjk:j=k
    ·subst hjk;exact hju
    ·rwa [getD_set_ne true hjk] at hku
   ·rw [Array.setIfInBounds_comm _ _ hji];exact h3.2
theorem Ld {n g:Nat} {Lq:Act→Prop} (hsel:Region.noSelect ops=true) (hs:Region.sinkB md ops n=true) (hc:Region.chainB md ops n=true) (hn:n < ops.size) :
  ∀ (l:List Oper) (k:Nat) (d:Array Bool) (a:Act),(∀ j,j < l.length→l[j]? = ops[k+j]?)→k+l.length=n→HeadInv md ops n d →
  Region.lexHead md ops g l.length k d=true→wpQuiet P ops C Lq l a →
  LI P md ops C n (fun d' a'=>Region.seqB md ops g n d'=true∧Lq a') l.length d a
 | [],k,d,a,_,hk,_,hB,h=>by
  obtain rfl:k=n:=by simpa using hk
  exact ⟨by simpa [Region.lexHead] using hB,h⟩
 | o::l,k,d,a,hl,hk,inv,hB,h=>by
  have h0:ops[k]? = some o:=by simpa using (hl 0 (by simp)).symm
  simp only [List.length_cons,Region.lexHead,Bool.and_eq_true] at hB;simp only [List.length_cons] at hk;have hr:k∈Region.ready md ops d:=by simpa using hB.1.1
  have hq:qOp P ops C k (wpQuiet P ops C Lq l) a:=by unfold qOp;simp only [h0];exact h
  obtain ⟨v,hy,G⟩:=yieldsIn_of_qOp h0 hq
  exact Uk h0 (Region.noSelect_spec hsel) hs hc hn (by omega) (fun d' a' hL=>seqB_ready hL.1) l.length d a inv (Region.free_spec h0 hB.1.2) hr hy
   (Ld hsel hs hc hn l (k+1) _ _ (fun j hj=>by have:=hl (j+1) (by simp;omega);simpa [Nat.add_assoc,Nat.add_comm 1 j] using this) (by omega) (inv.set hr (by omega)) hB.2 G)
end
section
variable {P:Program} {S:Ad} {M:List J} {w:World} {Q:Exit→Act→World→Prop} {l:List Value} {D:List Deferred}
theorem L5 {id:Nat} {lo:List Oper} (n:Nat) (V:St S M w) (hm:P.follows .mixedOrders=true) (hB:Region.lexTailB .any lo.toArray n=true)
  (h:wpQuiet P lo.toArray (St S M) (fun a'=>∀ w',St S M w'→wpList P lo.toArray Q (lo.drop n) a' w') (lo.take n) ⟨l.toArray,D⟩):(Code.region id lo.toArray true).wp P Q ⟨l.toArray,D⟩ w:=by
 simp only [Region.lexTailB,Bool.and_eq_true,decide_eq_true_eq] at hB;obtain ⟨⟨⟨⟨hsel,hn⟩,hs⟩,hc⟩,hlex⟩:=hB;have hn':n < lo.length:=by simpa using hn
 have htl:(lo.take n).length=n:=by simp;omega
 have inv:HeadInv .any lo.toArray n (Array.replicate lo.toArray.size false) :=
  ⟨by simp,fun j oj _ hl=>(by rw [getD_replicate_false] at hl;cases hl),fun t _ ht=>getD_in (by simpa using ht) (getD_replicate_false _ _)⟩
 have H:=Ld (md:=.any) (g:=lo.toArray.size - n) hsel hs hc hn (lo.take n) 0 _ _ (fun j hj=>by
  have hj':j < n:=by rw [htl] at hj;exact hj
  simp [hj']) (by simpa using htl) inv (by rw [htl];exact hlex) h
 refine wp_region_any hm ?_
 have K:=Ws (Q':=Q) (g:=lo.toArray.size - n) (fun d a' w' hw' hL=>by
  have:=wpAny_of_seq (md:=.any) (Q':=Q) (lo.drop n) n d a' w' (fun j=>by simp [List.getElem?_drop]) (by simpa using hL.1) (hL.2 w' hw')
  simpa using this) _ _ _ _ (by have:=V.drew;exact this) H
 rw [htl,show n+(lo.toArray.size - n)=lo.toArray.size by omega] at K;exact K
end
end Go.Sl
namespace Go.Sl
open Go.RowKit
variable {P:Program}
def cF {α:Type} (f:α→List Value) (xs:List α):List Value:=(xs.map f).flatten
theorem FX {α:Type} {f:α→List Value} {z} (hz:∀ x,(f x).length=z) (xs):(cF f xs).length=xs.length * z:=by
 induction xs with
 | nil=>simp [cF]
 | cons x xs ih=>simp only [cF,List.map_cons,List.flatten_cons,List.length_append,List.length_cons,hz,Nat.succ_mul] at *;omega
theorem Q1 {α:Type} {f z} (hz:∀ x,(f x).length=z):∀ (xs:List α) (j:Nat) (hj:j < xs.length),
  cF f xs=cF f (xs.take j)++f xs[j]++cF f (xs.drop (j+1))∧(cF f (xs.take j)).length=j * z:=by
 intro xs j hj;refine ⟨?_,by rw [FX hz];simp;rw [Nat.min_eq_left (by omega)]⟩;have:xs=xs.take j++xs[j]::xs.drop (j+1):=by simp
 have e:cF f xs=cF f (xs.take j++xs[j]::xs.drop (j+1)):=congrArg _ this;rw [e,cF,List.map_append,List.flatten_append,List.map_cons,List.flatten_cons,List.append_assoc];rfl
theorem JV {α:Type} {f:α→List Value} {z} (hz:∀ x,(f x).length=z) (xs j) (hj:j < xs.length):((cF f xs).drop (j * z)).take z=f xs[j]:=by
 obtain ⟨h,hl⟩:=Q1 hz xs j hj;rw [h,List.append_assoc,List.drop_append_of_le_length (by omega),List.drop_of_length_le (by omega),List.nil_append,List.take_append_of_le_length (by rw [hz];exact Nat.le_refl _),List.take_of_length_le (by rw [hz];exact Nat.le_refl _)]
theorem NJ {α:Type} {f:α→List Value} {z} (hz:∀ x,(f x).length=z) (xs j) (hj:j < xs.length) (y):
  (cF f xs).take (j * z)++f y++(cF f xs).drop (j * z+z)=cF f (xs.set j y):=by
 obtain ⟨h,hl⟩:=Q1 hz xs j hj;obtain ⟨h',hl'⟩:=Q1 hz (xs.set j y) j (by simpa using hj);rw [h',h]
 have e1:(cF f (xs.take j)++f xs[j]++cF f (xs.drop (j+1))).take (j * z)=cF f (xs.take j):=by
  rw [List.append_assoc,← hl,List.take_left]
 have e2:(cF f (xs.take j)++f xs[j]++cF f (xs.drop (j+1))).drop (j * z+z)=cF f (xs.drop (j+1)):=by
  have:(cF f (xs.take j)++f xs[j]).length=j * z+z:=by simp [hl,hz]
  rw [← this,List.drop_left]
 rw [e1,e2,List.getElem_set_self,List.take_set_of_le (Nat.le_refl _),List.drop_set_of_lt (Nat.lt_succ_self _)]
def Fb (b:Bool):List Value:=[.bool b]
def Ba (n:Int):List Value:=[.int .i64 n]
def Bi (p:Int×Int):List Value:=[.int .i64 p.1,.int .i64 p.2]
section
variable {ops:Array Oper} {rest:List Oper} {Q:Exit→Act→World→Prop} {l:List Value} {D:List Deferred} {w:World} {d:Tmp} {ty:TypeId} {pos:String} {af:Array Edge} {S:Ad} {M:List J}
theorem Nb {T F x zero bb v p} {j k n:Nat} {xs} (hx:Ai l x=p) (L:JY v p (j * 1)) (hk:M[k]? = some (.sl v F 1 n (cF Fb xs))) (hT:Ty P T false 1 zero bb) (hl:j < xs.length):Qt P l (.load T x) S M (.bool xs[j]):=by
 have h:=G4 (S:=S) hx L hk hT (JV (f:=Fb) (z:=1) (fun _=>rfl) xs j hl) (by rw [FX (f:=Fb) (z:=1) (fun _=>rfl)];omega);exact h
theorem KV {T F x zero bb v p} {j k n:Nat} {xs} (hx:Ai l x=p) (L:JY v p (j * 1)) (hk:M[k]? = some (.sl v F 1 n (cF Ba xs))) (hT:Ty P T false 1 zero bb) (hl:j < xs.length):Qt P l (.load T x) S M (.int .i64 xs[j]):=by
 have h:=G4 (S:=S) hx L hk hT (JV (f:=Ba) (z:=1) (fun _=>rfl) xs j hl) (by rw [FX (f:=Ba) (z:=1) (fun _=>rfl)];omega);exact h
theorem I4 {α:Type} [Z α] {T B:TypeId} {x y:Operand} {zero c cl:List Value} {bb b k:Nat} {q:α} (V:St S M w) (hx:Ai l x=.pointer (some ⟨b,0,none⟩)) (hk:M[k]? = some (.box b c B))
  (hy:Ai l y=DU (Z.agg α) cl) (hq:Z.R S cl q) (hT:Ty P T (Z.agg α) (Z.z α) zero bb) (hag:Z.agg α=true) (hc:c.length=Z.z α)
  (h:∀ w',St S (M.set k (.box b cl B)) w'→wpList P ops Q rest ⟨l.toArray,D⟩ w') :
  wpList P ops Q (⟨none,.store T x y,ty,pos,af,none⟩::rest) ⟨l.toArray,D⟩ w:=by
 have e:(DU (Z.agg α) cl).cells.toList=cl:=by rw [hag];rfl
 refine Ax V hx k hk hT hy e (Z.len hq) (List.all_eq_true.2 (Z.one hq)) (by omega) fun w' h'=>h w' ?_
 rw [List.take_zero,List.nil_append,List.drop_of_length_le (by omega),List.append_nil] at h';exact h'
theorem Z4 {T F:TypeId} {x y:Operand} {zero:List Value} {bb:Nat} {v p:Value} {j k n:Nat} {xs:List Bool} {u:Bool} (V:St S M w) (hx:Ai l x=p) (L:JY v p (j * 1)) (hk:M[k]? = some (.sl v F 1 n (cF Fb xs)))
  (hT:Ty P T false 1 zero bb) (hy:Ai l y=.bool u) (hl:j < xs.length)
  (h:∀ w',St S (M.set k (.sl v F 1 n (cF Fb (xs.set j u)))) w'→wpList P ops Q rest ⟨l.toArray,D⟩ w') :
  wpList P ops Q (⟨none,.store T x y,ty,pos,af,none⟩::rest) ⟨l.toArray,D⟩ w :=
 BV V hx L hk hT hy (cs:=Fb u) rfl rfl rfl (by rw [FX (f:=Fb) (z:=1) (fun _=>rfl)];omega) fun w' h'=>h w' (by rw [NJ (f:=Fb) (z:=1) (fun _=>rfl) xs j hl] at h';exact h')
theorem Tu {T F:TypeId} {x y:Operand} {zero:List Value} {bb:Nat} {v p:Value} {j k n:Nat} {xs:List Int} {u:Int} (V:St S M w) (hx:Ai l x=p) (L:JY v p (j * 1)) (hk:M[k]? = some (.sl v F 1 n (cF Ba xs)))
  (hT:Ty P T false 1 zero bb) (hy:Ai l y=.int .i64 u) (hl:j < xs.length)
  (h:∀ w',St S (M.set k (.sl v F 1 n (cF Ba (xs.set j u)))) w'→wpList P ops Q rest ⟨l.toArray,D⟩ w') :
  wpList P ops Q (⟨none,.store T x y,ty,pos,af,none⟩::rest) ⟨l.toArray,D⟩ w :=
 BV V hx L hk hT hy (cs:=Ba u) rfl rfl rfl (by rw [FX (f:=Ba) (z:=1) (fun _=>rfl)];omega) fun w' h'=>h w' (by rw [NJ (f:=Ba) (z:=1) (fun _=>rfl) xs j hl] at h';exact h')
theorem Z5 {T F:TypeId} {x y:Operand} {zero:List Value} {bb:Nat} {v p:Value} {j k n:Nat} {xs:List (Int×Int)} {a b:Int} (V:St S M w) (hx:Ai l x=p) (L:JY v p (j * 2)) (hk:M[k]? = some (.sl v F 2 n (cF Bi xs)))
  (hT:Ty P T true 2 zero bb) (hy:Ai l y=.agg #[.int .i64 a,.int .i64 b]) (hl:j < xs.length)
  (h:∀ w',St S (M.set k (.sl v F 2 n (cF Bi (xs.set j (a,b))))) w'→wpList P ops Q rest ⟨l.toArray,D⟩ w') :
  wpList P ops Q (⟨none,.store T x y,ty,pos,af,none⟩::rest) ⟨l.toArray,D⟩ w :=
 BV V hx L hk hT hy (cs:=Bi (a,b)) rfl rfl rfl (by rw [FX (f:=Bi) (z:=2) (fun _=>rfl)];omega) fun w' h'=>h w' (by rw [NJ (f:=Bi) (z:=2) (fun _=>rfl) xs j hl] at h';exact h')
end
end Go.Sl
namespace Go.Sl
class N (M:List J) (b:Nat) (k:outParam Nat) (c:outParam (List Value)) (B:outParam TypeId):Prop where
 h:M[k]? = some (.box b c B)
instance (priority:=high) boxIn_here {M:List J} {b:Nat} {c:List Value} {B:TypeId}:N (.box b c B::M) b 0 c B:=⟨rfl⟩
instance (priority:=low) boxIn_there {M:List J} {d:J} {b k:Nat} {c:List Value} {B:TypeId} [i:N M b k c B]:N (d::M) b (k+1) c B:=⟨by simpa using i.h⟩
class SlIn (M:List J) (v:Value) (k:outParam Nat) (T:outParam TypeId) (z n:outParam Nat) (c:outParam (List Value)):Prop where
 h:M[k]? = some (.sl v T z n c)
instance (priority:=high) slIn_here {M:List J} {v:Value} {T:TypeId} {z n:Nat} {c:List Value}:SlIn (.sl v T z n c::M) v 0 T z n c:=⟨rfl⟩
instance (priority:=low) slIn_there {M:List J} {d:J} {v:Value} {k:Nat} {T:TypeId} {z n:Nat} {c:List Value} [i:SlIn M v k T z n c]:SlIn (d::M) v (k+1) T z n c:=⟨by simpa using i.h⟩
theorem X {a b:Value} (h:a=b:=by first|(simp only [Ai,AV];rfl)|with_unfolding_all exact rfl):a=b:=h
theorem Ak {p:Prop} (h:p:=by assumption):p:=h
theorem Y {p:Prop} (h:p:=by infer_instance):p:=h
theorem Af {p:Prop} (h:p:=by first|omega|(simp only [List.length_set];omega)):p:=h
theorem A3 {p:Prop} (h:p:=by first|rfl|(simp [Value.cells];done)|(simpa [Value.cells] using Z.len (by assumption))):p:=h
theorem A2 {p:Prop} (h:p:=by first|rfl|(simp [Value.cells,Value.oneCell', *];done)|(exact List.all_eq_true.2 (Z.one (by assumption)))):p:=h
end Go.Sl
namespace Go.Sl
open Go.RowKit
variable {P:Program} {l:List Value} {S:Ad} {M:List J}
theorem Ga {T U x y k a b c} (hx:Ai l x=.int k a) (hy:Ai l y=.int k b) (h:(a != b)=c):Qt P l (.binOp .neq T x y U) S M (.bool c):=by
 subst h;exact VO hx hy
theorem Do {T U x y k a b c} (hx:Ai l x=.int k a) (hy:Ai l y=.int k b) (h:(a == b)=c):Qt P l (.binOp .eql T x y U) S M (.bool c):=by
 subst h;exact fx hx hy
theorem D6 {T U x y k a b c} (hx:Ai l x=.int k a) (hy:Ai l y=.int k b) (h:decide (a < b)=c):Qt P l (.binOp .lss T x y U) S M (.bool c):=by
 subst h;exact fq hx hy
theorem Kg {T U x y k a b c} (hx:Ai l x=.int k a) (hy:Ai l y=.int k b) (h:decide (a > b)=c):Qt P l (.binOp .gtr T x y U) S M (.bool c):=by
 subst h;exact fu hx hy
variable {P:Program} {S:Ad} {M:List J} {l:List Value} {ops:Array Oper} {rest:List Oper} {Q:Exit→Act→World→Prop} {D:List Deferred} {w:World} {ty:TypeId} {pos:String} {af:Array Edge} {d:Tmp} {dd:Option Tmp}
theorem Yi {E agg z zero bb} (hE:Ty P E agg z zero bb) (w) {cs es:List Value} {o} (hc:(cs.drop o).take z=es) (hl:es.length=z):
  (part E cs.toArray o).run P w=.ok (DU agg es) w:=by
 cases agg with
 | true =>
  simp only [part,Sem.run_bind,hE.run_isAgg,Result.andThen_ok,if_true,hE.run_sizeOf,Sem.run_pure,AB]
  congr 2
  rw [List.extract_toArray,List.extract_eq_take_drop,← hc]
  congr 2
  omega
 | false =>
  have hz:=hE.size_pos rfl;subst hz;obtain ⟨v,rfl⟩:=List.length_eq_one_iff.1 hl
  have h0:cs[o]? = some v:=by
   have:=congrArg (·[0]?) hc
   simpa [List.getElem?_take,List.getElem?_drop] using this
  simp only [part,Sem.run_bind,hE.run_isAgg,Result.andThen_ok,if_false,Bool.false_eq_true,Ap];simp [h0]
theorem VQ {T E n x i agg z zero bb} {cs es:List Value} {k j} (hx:Ai l x=.agg cs.toArray) (hi:Ai l i=.int k j) (hT:ArrT P T n E) (hE:Ty P E agg z zero bb) (h0:0≤j) (hn:j.toNat < n) (hc:(cs.drop (j.toNat * z)).take z=es) (hl:es.length=z):Qt P l (.index T x i) S M (DU agg es):=fun dst ty pos af w _=>by
 have hlt:j < n:=by omega
 have L:=Yi hE w hc hl;simp [execOp,hx,hi,Instr.index,asIntOf,run_underlying hT.u,h0,hlt,hE.run_sizeOf,L]
theorem Cd {T x i} {b:List UInt8} {k j} (hx:Ai l x=.string ⟨b.toArray⟩) (hi:Ai l i=.int k j) (hT:P.underlying T=some .string) (h0:0≤j) (hn:j.toNat < b.length):Qt P l (.index T x i) S M (.int .u8 (b[j.toNat].toNat:Nat)):=fun dst ty pos af w _=>by
 have e:(⟨b.toArray⟩:ByteArray)[j.toNat]? = some b[j.toNat]:=by
  have:(⟨b.toArray⟩:ByteArray).size=b.length:=rfl;rw [getElem?_pos _ _ (by rw [this];exact hn)];rfl
 simp [execOp,hx,hi,Instr.index,asIntOf,run_underlying hT,h0,e]
class Suf (M M':List J):Prop where
 h:∃ Nqq,M'=Nqq++M
instance (priority:=high) suf_here {M:List J}:Suf M M:=⟨[],rfl⟩
instance (priority:=low) suf_there {M M':List J} {c:J} [i:Suf M M']:Suf M (c::M'):=⟨let ⟨Nqq,h⟩:=i.h;⟨c::Nqq,by rw [h];rfl⟩⟩
theorem Suf.box {M M' b c T} (i:Suf (.box b c T::M) M'):∃ k,N M' b k c T:=by
 obtain ⟨Nqq,rfl⟩:=i.h;exact ⟨Nqq.length,⟨by simp⟩⟩
theorem YD {T U x y k a b c} (hx:Ai l x=.int k a) (hy:Ai l y=.int k b) (h:decide (a≥b)=c):Qt P l (.binOp .geq T x y U) S M (.bool c):=by
 subst h;exact fw hx hy
theorem YC {T U x y k a b c} (hx:Ai l x=.int k a) (hy:Ai l y=.int k b) (h:decide (a≤b)=c):Qt P l (.binOp .leq T x y U) S M (.bool c):=by
 subst h;exact ft hx hy
section
variable {α:Type} [Z α]
theorem I9 {T U d a b agg zero bb cs cs'} {x y:α} {c} (ha:Ai l a=.agg cs.toArray) (hb:Ai l b=.agg cs'.toArray) (h:Z.R S cs x) (h':Z.R S cs' y) (hT:Ty P T agg (Z.z α) zero bb) (hE:EqTy P T) (k:Key P T α d) [DecidableEq α] (e:decide (x=y)=c):Qt P l (.binOp .eql T a b U) S M (.bool c):=by subst e;exact JP ha hb h h' hT hE k
theorem ET {T U d a b agg zero bb cs cs'} {x y:α} {c} (ha:Ai l a=.agg cs.toArray) (hb:Ai l b=.agg cs'.toArray) (h:Z.R S cs x) (h':Z.R S cs' y) (hT:Ty P T agg (Z.z α) zero bb) (hE:EqTy P T) (k:Key P T α d) [DecidableEq α] (e:decide (x=y)=c):Qt P l (.binOp .neq T a b U) S M (.bool (!c)):=by subst e;exact bO ha hb h h' hT hE k
end
theorem k_indexV {x y:Operand} {T:TypeId} {g:Option (Nat×Bool)} {a:Act} (h:wpList P ops Q (⟨dd,.index T x y,ty,pos,af,g⟩::rest) a w):wpList P ops Q (⟨dd,.index T x y,ty,pos,af,g⟩::rest) a w:=h
variable {P:Program} {S:Ad} {M:List J} {l:List Value}
class StructT (P:Program) (T:TypeId) (places:outParam (List (Nat×Nat))):Prop where
 ok:(match P.underlying T with|some (.struct fs)=>fs.toList.mapM fun f=>(P.info? f.type).map fun i=>(f.offset,i.size)|_=>none)=some places
theorem M4 (w:World):∀ (fs:List Field) (places:List (Nat×Nat)),(fs.mapM fun f=>(P.info? f.type).map fun i=>(f.offset,i.size))=some places →
  (fs.mapM fun f=>do pure (f.offset,← sizeOf f.type):Sem (List (Nat×Nat))).run P w=.ok places w
 | [],places,h=>by
  obtain rfl:[]=places:=by simpa using h
  rfl
 | f::fs,places,h=>by
  rw [List.mapM_cons] at h ⊢
  cases hi:P.info? f.type with
  | none=>simp [hi] at h
  | some i =>
   simp only [hi,Option.map_some,Option.pure_def,Option.bind_eq_bind,Option.bind_some] at h
   cases hr:(fs.mapM fun f=>(P.info? f.type).map fun i=>(f.offset,i.size)) with
   | none=>simp [hr] at h
   | some ps =>
    simp only [hr,Option.bind_some,Option.some.injEq] at h;have:=M4 w fs ps hr;subst h;have hsz:(sizeOf f.type).run P w=.ok i.size w:=by simp [sizeOf,typeInfo,hi]
    simp only [Sem.run_bind,hsz,Result.andThen_ok,Sem.run_pure,this]
theorem Dc {T} {ps:List (Nat×Operand)} {places z zero bb} {cs:List Value} (hT:StructT P T places) (hZ:Ty P T true z zero bb) (hf:Instr.fill (fun i=>places.toArray[i]?) zero.toArray (ps.map fun q=>(q.1,Ai l q.2))=some cs.toArray):Qt P l (.build T ps.toArray) S M (.agg cs.toArray):=fun dst ty pos af w _=>by
 have h:=hT.ok
 cases hu:P.underlying T with
 | none=>simp [hu] at h
 | some d =>
  rw [hu] at h
  cases d with
  | struct fs =>
   have L:=M4 w fs.toList places h;have hcz:(DU true zero).cells=zero.toArray:=rfl;simp only [execOp,Instr.build,Sem.run_bind,hZ.run_zero,Result.andThen_ok,run_underlying hu];rw [Array.mapM_eq_mapM_toList];have e:(Array.map (fun x:Nat×Operand=>(x.fst,Ai l x.snd)) ps.toArray).toList=ps.map fun q=>(q.1,Ai l q.2):=by simp
   rw [map_eq_pure_bind,Sem.run_bind,L];simp only [Result.andThen_ok,Sem.run_pure,hcz,e,hf]
  | _=>simp at h
theorem CY {T U x y k a} (hx:Ai l x=.int k a) (hy:Ai l y=.int k a):Qt P l (.binOp .neq T x y U) S M (.bool false):=by
 have:=VO (P:=P) (T:=T) (U:=U) (S:=S) (M:=M) hx hy;rwa [bne_self_eq_false] at this
class BoolT (P:Program) (T:TypeId):Prop where
 u:P.underlying T=some .bool
theorem CS {v:Value} (h:v.oneCell'=true):v.cells.toList=[v]:=by
 cases v<;>first|rfl|simp [Value.oneCell'] at h
theorem G2 {P ops rest} {Q:Exit→Act→World→Prop} {l D w ty pos af S M T B x y zero c bb b off k v} (V:St S M w) (hx:Ai l x=.pointer (some ⟨b,off,none⟩)) (hk:M[k]? = some (.box b c B)) (hy:Ai l y=v) (h1:v.oneCell'=true) (hT:Ty P T false 1 zero bb) (hf:off+1≤c.length) (h:∀ w',St S (M.set k (.box b (c.take off++[v]++c.drop (off+1)) B)) w'→wpList P ops Q rest ⟨l.toArray,D⟩ w'):
  wpList P ops Q (⟨none,.store T x y,ty,pos,af,none⟩::rest) ⟨l.toArray,D⟩ w :=
 Ax V hx k hk hT hy (CS h1) rfl (by simp [h1]) hf h
theorem AY {S M w v T z n c} (h:St S (.sl v T z n c::M) w):v.oneCell'=true:=by
 rcases (h.get (k:=0) rfl).2 with ⟨rfl,_⟩|⟨g,cap,cur,fz,rfl,_⟩<;>rfl
theorem aY {S M w v T z n c} (h:St S (.sl v T z n c::M) w):∃ a k c',v=.slice a k c':=by
 rcases (h.get (k:=0) rfl).2 with ⟨rfl,_⟩|⟨g,cap,cur,fz,rfl,_⟩<;>exact ⟨_,_,_,rfl⟩
theorem E5 {α β:Type} [Z α] [Z β] {S cs} {x:α} {y:β} (h:Z.R S cs (x,y)):∃ c1 c2,cs=c1++c2∧Z.R S c1 x∧Z.R S c2 y :=
 ⟨_,_,(List.take_append_drop (Z.z α) cs).symm,h.2.1,h.2.2⟩
theorem St.weaken {S S' M w} (h:S.Le S') (g:St S' M w):St S M w:=by
 refine ⟨?_,?_,?_,fun b o e=>g.has b o (h.blk b o e),g.at_,fun d hd b hb=>?_,g.apart⟩
 ·first|exact g.os.trans h.os.symm|exact g.os.trans h.os|(rw [h.os];exact g.os)
 ·first|exact g.tape.trans h.tape.symm|exact g.tape.trans h.tape|(rw [h.tape];exact g.tape)
 ·first|exact g.output.trans h.output.symm|exact g.output.trans h.output|(rw [h.output];exact g.output)
 ·have:=g.out d hd b hb
  cases e:S.blk b with
  | none=>rfl
  | some o=>rw [h.blk b o e] at this;cases this
theorem St.swap {S a b M w} (h:St S (a::b::M) w):St S (b::a::M) w:=h.perm (List.Perm.swap _ _ _)
theorem Ac.eq {P f args w S M b c} (h:Ac P f args w fun v w'=>v=.bool b∧St S M w') (e:b=c):
  Ac P f args w fun v w'=>v=.bool c∧St S M w':=e▸h
theorem JU {α:Type} (f:α→List Value) (xs x):cF f (xs++[x])=cF f xs++f x:=by simp [cF]
theorem KT {α:Type} (f:α→List Value) (x n):(List.replicate n (f x)).flatten=cF f (List.replicate n x):=by simp [cF]
theorem Kd {S xs} (h:∀ x∈xs,Au x):RL S (cF Ba xs) xs:=by
 refine ⟨FX (f:=Ba) (z:=1) (fun _=>rfl) xs,fun i x hx=>?_⟩;obtain ⟨hi,rfl⟩:=List.getElem?_eq_some_iff.1 hx;have:=JV (f:=Ba) (z:=1) (fun _=>rfl) xs i hi;show Z.R S (((cF Ba xs).drop (i * 1)).take 1) _;rw [this];exact ⟨rfl,h _ (List.getElem_mem hi)⟩
theorem Ex {S M w v n c T} (xs) (h:St S (.sl v T 1 n c::M) w) (hc:c=cF Ba xs) (hx:∀ x∈xs,Au x) (hn:n=xs.length):∃ S',S.Le S'∧St S' M w∧RSl S' v xs:=by
 subst hc;exact St.freeze (α:=Int) h (Kd hx) hn
theorem LA {S} (xs):RL S (u8s xs) xs:=by
 refine ⟨by simp [u8s,Z.z],fun i x hx=>?_⟩;obtain ⟨hi,rfl⟩:=List.getElem?_eq_some_iff.1 hx;show ((u8s xs).drop (i * 1)).take 1=[Value.int .u8 ((xs[i]).toNat:Int)];rw [Nat.mul_one,List.take_one,List.head?_drop];simp [u8s,List.getElem?_eq_getElem hi]
theorem Nu {S M w v n c T} (xs) (h:St S (.sl v T 1 n c::M) w) (hc:c=u8s xs) (hn:n=xs.length):∃ S',S.Le S'∧St S' M w∧RSl S' v xs:=by
 subst hc;exact St.freeze (α:=UInt8) h (LA xs) hn
theorem Iy (xs x):u8s (xs++[x])=u8s xs++[.int .u8 (x.toNat:Int)]:=by simp [u8s]
theorem J5 (xs ys):u8s (xs++ys)=u8s xs++u8s ys:=by simp [u8s]
theorem RZ {S v xs} (h:RSl S v xs):∀ x∈xs,Au x:=by
 intro x hx;obtain ⟨i,hi,rfl⟩:=List.mem_iff_getElem.1 hx;rcases h with ⟨ad,cap,_,h,_⟩|⟨b,o,cap,c,T,fz,_,_,_,_,h⟩
 ·subst h;simp at hi
 ·exact (h.at_ i hi).2
variable {P:Program} {S:Ad} {M:List J} {l:List Value} {α:Type} [Z α]
class FlatC (α:Type) [Z α] (cells:outParam (α→List Value)):Prop where
 flat:∀ {S:Ad} {cs:List Value} {x:α},Z.R S cs x→cs=cells x
theorem BW {cells T x zero bb p y} (hx:Ai l x=p) (L:Pt S p y) (hF:FlatC α cells) (hT:Ty P T (Z.agg α) (Z.z α) zero bb) (ha:Z.agg α=true):
  Qt P l (.load T x) S M (.agg (cells y).toArray):=fun dst ty pos af w V=>by
 obtain ⟨v,⟨cs,rfl,hR⟩,hq⟩:=Aw (P:=P) (M:=M) (l:=l) hx L hT;have:=hq dst ty pos af w V;rw [hF.flat hR,ha] at this;exact this
theorem YA {T U x y k a b c} (hx:Ai l x=.int k a) (hy:Ai l y=.int k b) (hb:b≠0) (h:a.tmod b=c):Qt P l (.binOp .rem T x y U) S M (.int k c):=fun dst ty pos af w _=>by
 simp [execOp,hx,hy,eqGuard_at_int,binOp_rem,Op.intDiv,hb,h]
class IntT (P:Program) (T:TypeId) (k:outParam IntKind):Prop where
 u:P.underlying T=some (.int k)
theorem EU {T U x k k1 k2 n m} (hx:Ai l x=.int k n) (hT:IntT P T k1) (hU:IntT P U k2) (h:k2.wrap n=m):Qt P l (.convert T U x) S M (.int k2 m):=fun dst ty pos af w _=>by
 simp [execOp,hx,convert,run_underlying hT.u,run_underlying hU.u,Conv.intToInt,h]
theorem Lt {n} (h:0≤n∧n < 9223372036854775808):IntKind.i64.wrap n=n:=by
 simp only [IntKind.wrap,IntKind.bits,IntKind.signed];simp;omega
variable {P:Program} {S:Ad} {M:List J} {l:List Value} {ops:Array Oper} {rest:List Oper} {Q:Exit→Act→World→Prop} {D:List Deferred} {w:World} {ty:TypeId} {pos:String} {af:Array Edge} {d:Tmp}
variable {α:Type} [Z α]
theorem Nh {T E n x v xs} (hx:Ai l x=v) (hv:RSl S v xs) (hT:ArrT P T n E) (hn:xs.length=n) (h0:0 < n):
  ∃ p,Pt S p (⟨xs⟩:H7 α n)∧Qt P l (.sliceToArrayPointer T x) S M p:=by
 rcases hv with ⟨ad,cap,rfl,rfl,_⟩|⟨b,o,cap,c,TT,fz,rfl,hb,hc,hm,hRL⟩
 ·simp at hn;omega
 ·subst hn;refine ⟨.pointer (some ⟨b,o,none⟩),⟨b,o,c,TT,fz,rfl,hb,rfl,hRL.1,hRL.2⟩,fun dst ty pos af w V=>?_⟩;simp [execOp,hx,Instr.arrayAt,run_underlying hT.u]
class StrT (P:Program) (T:TypeId):Prop where
 u:P.underlying T=some .string
theorem AW {T x} {b:List UInt8} (hx:Ai l x=.string ⟨b.toArray⟩) (hT:StrT P T):Qt P l (.call { callee:=.builtin .len,args:=#[x],argTypes:=#[T] }) S M (.int .i64 (b.length:Nat)):=fun dst ty pos af w V=>by
 simp [execOp,resolve,invoke,builtin,hx,Builtin.len_,run_underlying hT.u,goInt];rfl
theorem Fh (b):∀ q∈u8s b,q.oneCell'=true:=by
 intro q hq;simp only [u8s,List.mem_map] at hq;obtain ⟨x,_,rfl⟩:=hq;rfl
theorem Bh (b):(u8s b).length=b.length:=by simp [u8s]
variable {P:Program} {S:Ad} {M:List J} {l:List Value}
instance iS:Z UInt32 where
 z:=1
 agg:=false
 R _ cs x:=cs=[.int .u32 x.toNat]
 mono _ h:=h
 len h:=by rw [h];rfl
 one h:=by rw [h];intro u hu;simp at hu;subst hu;rfl
 z1 _:=rfl
def CH (x:UInt32):List Value:=[.int .u32 (x.toNat:Int)]
def shl (x:UInt32) (n:Nat):UInt32:=⟨x.toBitVec <<< n⟩
def shr (x:UInt32) (n:Nat):UInt32:=⟨x.toBitVec >>> n⟩
theorem Gi (x:UInt32):BitVec.ofInt 32 (x.toNat:Int)=x.toBitVec:=by
 rw [BitVec.ofInt_natCast];exact BitVec.ofNat_toNat ..
theorem J1 {n:Nat} (h:n < 4294967296):IntKind.u32.wrap (n:Int)=n:=by
 simp only [IntKind.wrap,IntKind.bits,IntKind.signed];simp;omega
theorem KE (n:Nat):IntKind.u32.wrap (n:Int)=(n % 4294967296:Nat):=by
 simp only [IntKind.wrap,IntKind.bits,IntKind.signed];simp
theorem NL (a b:UInt32):bits .xor .u32 (a.toNat:Int) (b.toNat:Int)=((a ^^^ b).toNat:Int):=by
 show IntKind.u32.wrap ((BitVec.ofInt 32 (a.toNat:Int) ^^^ BitVec.ofInt 32 (b.toNat:Int)).toNat:Int)=_;rw [Gi,Gi,J1 (BitVec.isLt _)];rfl
theorem UB (a b:UInt32):bits .and .u32 (a.toNat:Int) (b.toNat:Int)=((a &&& b).toNat:Int):=by
 show IntKind.u32.wrap ((BitVec.ofInt 32 (a.toNat:Int) &&& BitVec.ofInt 32 (b.toNat:Int)).toNat:Int)=_;rw [Gi,Gi,J1 (BitVec.isLt _)];rfl
theorem W7 (a b:UInt32):bits .or .u32 (a.toNat:Int) (b.toNat:Int)=((a ||| b).toNat:Int):=by
 show IntKind.u32.wrap ((BitVec.ofInt 32 (a.toNat:Int) ||| BitVec.ofInt 32 (b.toNat:Int)).toNat:Int)=_;rw [Gi,Gi,J1 (BitVec.isLt _)];rfl
theorem Xs (x n):IntKind.u32.wrap ((x.toNat:Int) * 2 ^ n)=((shl x n).toNat:Int):=by
 have e:((x.toNat:Int) * 2 ^ n)=((x.toNat * 2 ^ n:Nat):Int):=by push_cast;rfl
 rw [e,KE]
 congr 1
 show _=(x.toBitVec <<< n).toNat;rw [BitVec.toNat_shiftLeft,Nat.shiftLeft_eq];rfl
theorem Zs (x n):Int.fdiv (x.toNat:Int) (2 ^ n)=((shr x n).toNat:Int):=by
 have e:((2:Int) ^ n)=((2 ^ n:Nat):Int):=by push_cast;rfl
 rw [e,← Int.ofNat_fdiv]
 congr 1
 show _=(x.toBitVec >>> n).toNat;rw [BitVec.toNat_ushiftRight,Nat.shiftRight_eq_div_pow];rfl
section
variable {T U:TypeId} {x y:Operand} {a b:UInt32}
theorem Fx (hx:Ai l x=.int .u32 (a.toNat:Int)) (hy:Ai l y=.int .u32 (b.toNat:Int)):Qt P l (.binOp .xor T x y U) S M (.int .u32 ((a ^^^ b).toNat:Int)):=fun dst ty pos af w _=>by
 simp [execOp,hx,hy,eqGuard_at_int,binOp_xor,intBits_xor,NL]
theorem IG (hx:Ai l x=.int .u32 (a.toNat:Int)) (hy:Ai l y=.int .u32 (b.toNat:Int)):Qt P l (.binOp .and T x y U) S M (.int .u32 ((a &&& b).toNat:Int)):=fun dst ty pos af w _=>by
 simp [execOp,hx,hy,eqGuard_at_int,binOp_and,intBits_and,UB]
theorem N6 (hx:Ai l x=.int .u32 (a.toNat:Int)) (hy:Ai l y=.int .u32 (b.toNat:Int)):Qt P l (.binOp .or T x y U) S M (.int .u32 ((a ||| b).toNat:Int)):=fun dst ty pos af w _=>by
 simp [execOp,hx,hy,eqGuard_at_int,binOp_or,intBits_or,W7]
theorem Dp (hx:Ai l x=.int .u32 (a.toNat:Int)) (hy:Ai l y=.int .u32 (b.toNat:Int)):Qt P l (.binOp .add T x y U) S M (.int .u32 ((a+b).toNat:Int)):=fun dst ty pos af w _=>by
 have e:IntKind.u32.wrap ((a.toNat:Int)+(b.toNat:Int))=((a+b).toNat:Int):=by
  rw [← Int.natCast_add,KE,UInt32.toNat_add]
 simp [execOp,hx,hy,binOp_add,eqGuard_add,Op.intArith,e]
theorem Mt {k:IntKind} {n:Int} (hx:Ai l x=.int .u32 (a.toNat:Int)) (hy:Ai l y=.int k n) (hn:0≤n∧n≤32):Qt P l (.binOp .shl T x y U) S M (.int .u32 ((shl a n.toNat).toNat:Int)):=fun dst ty pos af w _=>by
 obtain ⟨m,rfl⟩:∃ m:Nat,n=m:=⟨n.toNat,by omega⟩
 rw [Int.toNat_natCast];have h0:¬ ((m:Int) < 0):=by omega
 have e:min m 32=m:=by omega
 have e2:=Xs a m;simp [execOp,hx,hy,eqGuard_at_int,binOp,Op.shift,IntKind.bits,e,e2]
theorem IF {k:IntKind} {n:Int} (hx:Ai l x=.int .u32 (a.toNat:Int)) (hy:Ai l y=.int k n) (hn:0≤n∧n≤32):Qt P l (.binOp .shr T x y U) S M (.int .u32 ((shr a n.toNat).toNat:Int)):=fun dst ty pos af w _=>by
 obtain ⟨m,rfl⟩:∃ m:Nat,n=m:=⟨n.toNat,by omega⟩
 rw [Int.toNat_natCast];have h0:¬ ((m:Int) < 0):=by omega
 have e:min m 32=m:=by omega
 have e2:=Zs a m;rw [Int.fdiv_eq_ediv_of_nonneg _ (Int.le_of_lt (Int.pow_pos (by decide)))] at e2;simp [execOp,hx,hy,eqGuard_at_int,binOp,Op.shift,IntKind.bits,e,e2]
theorem TE {b:UInt8} (hx:Ai l x=.int .u8 (b.toNat:Int)) (hT:IntT P T .u8) (hU:IntT P U .u32):Qt P l (.convert T U x) S M (.int .u32 ((UInt32.ofNat b.toNat).toNat:Int)) :=
 EU hx hT hU (by
  have:=b.toNat_lt;rw [J1 (by omega),UInt32.toNat_ofNat_of_lt' (by have:UInt32.size=4294967296:=rfl;omega)])
theorem Rp (hx:Ai l x=.int .u32 (a.toNat:Int)) (hT:IntT P T .u32) (hU:IntT P U .u64):Qt P l (.convert T U x) S M (.int .u64 (a.toNat:Int)) :=
 EU hx hT hU (by
  have:=a.toNat_lt;simp only [IntKind.wrap,IntKind.bits,IntKind.signed];simp;omega)
theorem YB (hx:Ai l x=.int .u32 (a.toNat:Int)):Qt P l (.unOp .xor T x) S M (.int .u32 ((4294967295 ^^^ a:UInt32).toNat:Int)):=fun dst ty pos af w _=>by
 have e:=NL 4294967295 a;rw [show (((4294967295:UInt32).toNat:Nat):Int)=4294967295 from rfl] at e;simp [execOp,hx,unary_xor,intBits_xor,IntKind.signed,IntKind.max,IntKind.bits,e]
end
theorem Ks (ws):(cF CH ws).length=ws.length:=by
 have:=FX (f:=CH) (z:=1) (fun _=>rfl) ws;omega
theorem Im (ws j) (h:j < ws.length):((cF CH ws).drop j).take 1=[.int .u32 ((ws.getD j 0).toNat:Int)]:=by
 have:=JV (f:=CH) (z:=1) (fun _=>rfl) ws j h;rw [Nat.mul_one] at this;rw [this,List.getD_eq_getElem?_getD,List.getElem?_eq_getElem h];rfl
theorem Ux (ws j) (h:j < ws.length) (y):(cF CH ws).take j++[.int .u32 (y.toNat:Int)]++(cF CH ws).drop (j+1)=cF CH (ws.set j y):=by
 have:=NJ (f:=CH) (z:=1) (fun _=>rfl) ws j h y;rw [Nat.mul_one] at this;exact this
section
variable {ops:Array Oper} {rest:List Oper} {Q:Exit→Act→World→Prop} {D:List Deferred} {w:World} {d:Tmp} {dd:Option Tmp} {ty:TypeId} {pos:String} {af:Array Edge}
theorem FS {p:Prop} (h:p:=by with_unfolding_all exact rfl):p:=h
theorem BB {T B x zero c} {z bb b k:Nat} (hx:Ai l x=.pointer (some ⟨b,0,none⟩)) (hk:M[k]? = some (.box b c B)) (hT:Ty P T true z zero bb) (hl:c.length=z):Qt P l (.load T x) S M (.agg c.toArray):=by
 have:=AT (P:=P) (l:=l) (S:=S) (cs:=c) hx k hk hT (by rw [List.drop_zero,← hl,List.take_length]) hl;exact this
theorem JO {T B x zero} {bb b off k:Nat} {ws} (hx:Ai l x=.pointer (some ⟨b,off,none⟩)) (hk:M[k]? = some (.box b (cF CH ws) B)) (hT:Ty P T false 1 zero bb) (hl:off < ws.length):Qt P l (.load T x) S M (.int .u32 ((ws.getD off 0).toNat:Int)) :=
 AT hx k hk hT (Im ws off hl) rfl
theorem Po {T B:TypeId} {x y:Operand} {zero:List Value} {bb b off k:Nat} {ws:List UInt32} {u:UInt32} (V:St S M w) (hx:Ai l x=.pointer (some ⟨b,off,none⟩)) (hk:M[k]? = some (.box b (cF CH ws) B))
  (hT:Ty P T false 1 zero bb) (hy:Ai l y=.int .u32 (u.toNat:Int)) (hl:off < ws.length)
  (h:∀ w',St S (M.set k (.box b (cF CH (ws.set off u)) B)) w'→wpList P ops Q rest ⟨l.toArray,D⟩ w') :
  wpList P ops Q (⟨none,.store T x y,ty,pos,af,none⟩::rest) ⟨l.toArray,D⟩ w :=
 Ax V hx k hk hT hy (cs:=[.int .u32 (u.toNat:Int)]) rfl rfl rfl (by rw [Ks];omega) fun w' h'=>h w' (by rw [Ux ws off hl] at h';exact h')
theorem OU {T E n x i zero bb ws k j} (hx:Ai l x=.agg (cF CH ws).toArray) (hi:Ai l i=.int k j) (hT:ArrT P T n E) (hE:Ty P E false 1 zero bb) (h0:0≤j) (hn:j.toNat < n) (hl:j.toNat < ws.length):Qt P l (.index T x i) S M (.int .u32 ((ws.getD j.toNat 0).toNat:Int)) :=
 VQ (es:=[.int .u32 ((ws.getD j.toNat 0).toNat:Int)]) hx hi hT hE h0 hn (by rw [Nat.mul_one];exact Im ws _ hl) rfl
theorem KX {T E n z ze} {ps:List (Nat×Operand)} {zero zeroE bb be agg} {cs:List Value} (hT:ArrT P T n E) (hE:Ty P E agg ze zeroE be) (hZ:Ty P T true z zero bb) (hf:Instr.fill (fun i=>some (i * ze,ze)) zero.toArray (ps.map fun q=>(q.1,Ai l q.2))=some cs.toArray):Qt P l (.build T ps.toArray) S M (.agg cs.toArray):=fun dst ty pos af w _=>by
 have hcz:(DU true zero).cells=zero.toArray:=rfl;have e:(Array.map (fun x:Nat×Operand=>(x.fst,Ai l x.snd)) ps.toArray).toList=ps.map fun q=>(q.1,Ai l q.2):=by simp
 simp only [execOp,Instr.build,Sem.run_bind,hZ.run_zero,Result.andThen_ok,run_underlying hT.u,hE.run_sizeOf,hcz,e,hf,Sem.run_pure]
theorem OA {ι:Type} {f:ι→Value}:∀ (ps:List (Nat×ι)) (i:Nat),ps.map (·.1)=List.range' i ps.length→ps.map (fun q=>(q.1,f q.2))=((ps.map fun q=>f q.2).zipIdx i).map fun p=>(p.2,p.1)
 | [],_,_=>rfl
 | p::r,i,h=>by
  rw [List.map_cons,List.length_cons,List.range'_succ] at h;have h1:p.1=i:=(List.cons.inj h).1;simp only [List.map_cons,List.zipIdx_cons,h1];rw [OA r (i+1) (List.cons.inj h).2]
theorem OV {T E n z} {ps:List (Nat×Operand)} {zero zeroE bb be cs} (hT:ArrT P T n E) (hE:Ty P E false 1 zeroE be) (hZ:Ty P T true z zero bb) (hi:ps.map (·.1)=List.range' 0 ps.length) (hn:ps.length=zero.length) (hv:ps.map (fun q=>Ai l q.2)=cs) (h1:∀ v∈cs,v.cells = #[v]):Qt P l (.build T ps.toArray) S M (.agg cs.toArray):=by
 refine KX hT hE hZ ?_;rw [OA ps 0 hi,hv];have hl:cs.length=zero.length:=by rw [← hv,List.length_map,hn]
 have:=MC (z:=1) cs 0 zero (fun v hv=>by rw [h1 v hv];rfl) (by omega);rw [this]
 have e:(cs.map fun v=>v.cells.toList).flatten=cs:=by
  clear this hl hv
  induction cs with
  | nil=>rfl
  | cons v r ih=>rw [List.map_cons,List.flatten_cons,ih (fun u hu=>h1 u (.tail _ hu)),h1 v (.head _)];rfl
 simp [e]
theorem k_conv {x:Operand} {T U:TypeId} {g:Option (Nat×Bool)} {a:Act} (h:wpList P ops Q (⟨dd,.convert T U x,ty,pos,af,g⟩::rest) a w):wpList P ops Q (⟨dd,.convert T U x,ty,pos,af,g⟩::rest) a w:=h
theorem Vy {src dst E:TypeId} {x:Operand} {v:Value} {b:List UInt8} (V:St S M w) (hx:Ai l x=v) (hv:RSl S v b) (hs:SlT P src E) (he:IntT P E .u8) (hd:StrT P dst)
  (h:wpList P ops Q rest ⟨(l.set d (.string ⟨b.toArray⟩)).toArray,D⟩ w) :
  wpList P ops Q (⟨some d,.convert src dst x,ty,pos,af,none⟩::rest) ⟨l.toArray,D⟩ w:=Ye V hx hv hs he.u hd.u h
theorem k_build {T:TypeId} {ps:Array (Nat×Operand)} {g:Option (Nat×Bool)} {a:Act} (h:wpList P ops Q (⟨dd,.build T ps,ty,pos,af,g⟩::rest) a w):wpList P ops Q (⟨dd,.build T ps,ty,pos,af,g⟩::rest) a w:=h
theorem k_un {x:Operand} {T:TypeId} {u:UnOp} {g:Option (Nat×Bool)} {a:Act} (h:wpList P ops Q (⟨dd,.unOp u T x,ty,pos,af,g⟩::rest) a w):wpList P ops Q (⟨dd,.unOp u T x,ty,pos,af,g⟩::rest) a w:=h
end
end Go.Sl
