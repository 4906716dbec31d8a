/- Part 22 of the proof that the law of the last part holds; no conditions. -/
import Derived.Deep.Cut
import Derived.Test.YtmmbidoldegemaaGreatDoorZ20
set_option linter.unusedSimpArgs false
set_option linter.unusedVariables false
set_option maxRecDepth 8000
set_option maxHeartbeats 8000000
namespace Go.Proofs.YtmmbidoldegemaaGreatDoor
open Go.RowKit Go.Sl
abbrev Ea:=Int×Int×By×List Int×Unit
structure D5 where
 seen:List Bool
 out:List (Int×Int)
 found:List Bool
def B8 (nd:Ea) (s:D5):Bool:=decide (nd.1=12) && (decide (0≤nd.2.1) && (decide (nd.2.1 < s.out.length) && !(s.found.getD nd.2.1.toNat true)))
def F2 (pt:Bool) (n:Int) (ar:Int×Int) (i:Nat):Int×Int:=if pt=true∧i=2 then (n,2) else if pt=true∧i=1 then (n,1) else ar
def enter (k:Nat) (nd:Ea) (ar:Int×Int) (s:D5):D5 :=
 if B8 nd s then ⟨s.seen.set k true,s.out.set nd.2.1.toNat ar,s.found.set nd.2.1.toNat true⟩ else ⟨s.seen.set k true,s.out,s.found⟩
def goes (nodes:List Ea) (k:Int) (s:D5):Option Ea:=if k < 0∨s.seen.getD k.toNat true=true then none else nodes[k.toNat]?
def DL (nodes:List Ea):Nat→Int→Int×Int→D5→D5
 | 0,_,_,s=>s
 | f+1,k,ar,s =>
  match goes nodes k s with
  | none=>s
  | some nd=>(List.range nd.2.2.2.1.length).foldl (fun t i=>DL nodes f (nd.2.2.2.1.getD i 0) (F2 (B8 nd s) nd.2.1 ar i) t) (enter k.toNat nd ar s)
def Kl (nodes:List Ea) (f:Nat) (pt:Bool) (n:Int) (ar:Int×Int) (ofs:List Int) (e:D5) (i:Nat):D5 :=
 (List.range i).foldl (fun t i=>DL nodes f (ofs.getD i 0) (F2 pt n ar i) t) e
theorem U6 (nodes:List Ea) (f:Nat) (pt:Bool) (n:Int) (ar:Int×Int) (ofs:List Int) (e:D5) (i:Nat) :
  Kl nodes f pt n ar ofs e (i+1)=DL nodes f (ofs.getD i 0) (F2 pt n ar i) (Kl nodes f pt n ar ofs e i):=by
 simp [Kl,List.range_succ,List.foldl_append]
theorem RR {nodes:List Ea} {f:Nat} {k:Int} {ar:Int×Int} {s:D5} {nd:Ea} (h:goes nodes k s=some nd) :
  DL nodes (f+1) k ar s=Kl nodes f (B8 nd s) nd.2.1 ar nd.2.2.2.1 (enter k.toNat nd ar s) nd.2.2.2.1.length:=by
 rw [DL,h];rfl
def left (s:D5):Nat:=s.seen.count false
structure IT (nodes:List Ea) (np:Nat) (s:D5):Prop where
 seen:s.seen.length=nodes.length
 out:s.out.length=np
 found:s.found.length=np
theorem IT.enter {nodes:List Ea} {np:Nat} {s:D5} (h:IT nodes np s) (k:Nat) (nd:Ea) (ar:Int×Int):IT nodes np (enter k nd ar s):=by
 unfold Proofs.YtmmbidoldegemaaGreatDoor.enter;split<;>exact ⟨by simp [h.seen],by simp [h.out],by simp [h.found]⟩
theorem DA {α β:Type} {p:α→Prop} {f:α→β→α} (h:∀ a b,p a→p (f a b)) (l:List β):∀ a,p a→p (l.foldl f a):=by
 induction l with
 | nil=>exact fun a h=>h
 | cons b l ih=>exact fun a ha=>ih _ (h _ _ ha)
theorem Jf {nodes:List Ea} {np:Nat}:∀ (f:Nat) (k:Int) (ar:Int×Int) (s:D5),IT nodes np s→IT nodes np (DL nodes f k ar s)
 | 0,_,_,_,h=>h
 | f+1,k,ar,s,h=>by
  unfold DL;split
  ·exact h
  ·exact DA (p:=IT nodes np) (fun t i ht=>Jf f _ _ t ht) _ _ (h.enter _ _ _)
theorem VG {l:List Bool} {k:Nat} (h:l[k]? = some false):(l.set k true).count false+1=l.count false:=by
 induction l generalizing k with
 | nil=>simp at h
 | cons b l ih =>
  cases k with
  | zero=>simp at h;subst h;simp
  | succ k=>simp at h;have:=ih h;cases b<;>simp<;>omega
theorem MD {k:Nat} {nd:Ea} {ar:Int×Int} {s:D5} (h:s.seen[k]? = some false):left (enter k nd ar s)+1=left s:=by
 unfold enter left;split<;>exact VG h
theorem Kr {nodes:List Ea} {k:Int} {s:D5} {nd:Ea} (h:goes nodes k s=some nd):0≤k∧s.seen[k.toNat]? = some false∧nodes[k.toNat]? = some nd:=by
 unfold goes at h;split at h
 ·cases h
 ·rename_i hc;refine ⟨by omega,?_,h⟩;have:¬ s.seen.getD k.toNat true=true:=fun e=>hc (.inr e)
  rw [List.getD_eq_getElem?_getD] at this
  cases hs:s.seen[k.toNat]? with
  | none=>rw [hs] at this;simp at this
  | some b=>rw [hs] at this;cases b;rfl;simp at this
theorem LY {nodes:List Ea}:∀ (f:Nat) (k:Int) (ar:Int×Int) (s:D5) (n:Nat),left s≤n→left (DL nodes f k ar s)≤n
 | 0,_,_,_,_,h=>h
 | f+1,k,ar,s,n,h=>by
  unfold DL;split
  ·exact h
  ·rename_i nd hg;have:=MD (nd:=nd) (ar:=ar) (Kr hg).2.1;exact DA (p:=fun s=>left s≤n) (fun t i ht=>LY f _ _ t n ht) _ _ (by omega)
theorem Ix {nodes:List Ea} {np:Nat} {f:Nat} {pt:Bool} {n:Int} {ar:Int×Int} {ofs:List Int} {e:D5} (h:IT nodes np e) (i:Nat):IT nodes np (Kl nodes f pt n ar ofs e i) :=
 DA (p:=IT nodes np) (fun t i ht=>Jf f _ _ t ht) _ _ h
theorem Iw {nodes:List Ea} {m:Nat} {f:Nat} {pt:Bool} {n:Int} {ar:Int×Int} {ofs:List Int} {e:D5} (h:left e≤m) (i:Nat):left (Kl nodes f pt n ar ofs e i)≤m :=
 DA (p:=fun s=>left s≤m) (fun t i ht=>LY f _ _ t m ht) _ _ h
def mv (bp bv bo bf bs:Nat) (pc:List Value) (vv vo vf fv:Value) (nn np:Nat) (s:D5) (M0:List Chunk):List Chunk :=
 .box bp pc 87::.box bv [vv] 204::.box bo [vo] 28::.box bf [vf] 204::.box bs [fv] 211::.sl vv 4 1 nn (cF EH s.seen)::.sl vo 57 2 np (cF A9 s.out)::.sl vf 4 1 np (cF EH s.found)::M0
theorem JF {l:List Int} {i:Nat} (h:i < l.length):l.getD i 0=l[i]:=by simp [List.getD,List.getElem?_eq_getElem h]
theorem X2 {l:List Bool} {i:Nat} (h:i < l.length):l.getD i true=l[i]:=by simp [List.getD,List.getElem?_eq_getElem h]
theorem Ou {S:Ac} {w:World} {bp bv bo bf bs:Nat} {pc:List Value} {vv vo vf fv:Value} {nn np:Nat} {s:D5} {M0:List Chunk} (A:List Chunk)
  (h:St S (A++mv bp bv bo bf bs pc vv vo vf fv nn np s M0) w):St S (mv bp bv bo bf bs pc vv vo vf fv nn np s (A++M0)) w :=
 h.perm (List.perm_append_comm_assoc A (mv bp bv bo bf bs pc vv vo vf fv nn np s []) M0)
theorem dB {S:Ac} {w:World} {bp bv bo bf bs:Nat} {pc:List Value} {vv vo vf fv:Value} {nn np:Nat} {s:D5} {M0:List Chunk} (A:List Chunk)
  (h:St S (mv bp bv bo bf bs pc vv vo vf fv nn np s (A++M0)) w):St S (A++mv bp bv bo bf bs pc vv vo vf fv nn np s M0) w :=
 h.perm (List.perm_append_comm_assoc A (mv bp bv bo bf bs pc vv vo vf fv nn np s []) M0).symm
theorem EB {α β:Type} [Rep α] [Rep β] {S:Ac} {cs:List Value} {x:α} {y:β} (h:Rep.R S cs (x,y)):∃ c1 c2,cs=c1++c2∧Rep.R S c1 x∧Rep.R S c2 y :=
 ⟨_,_,(List.take_append_drop (Rep.z α) cs).symm,h.2.1,h.2.2⟩
theorem Mq {S:Ac} {cs:List Value} {nd:Ea} (h:Rep.R S cs nd):∃ vs,cs=[.int .i64 nd.1,.int .i64 nd.2.1,.string ⟨nd.2.2.1.b.toArray⟩,vs]∧RSl S vs nd.2.2.2.1∧Au nd.1∧Au nd.2.1:=by
 obtain ⟨kd,n,sb,ofs,u⟩:=nd;obtain ⟨c1,r1,e1,⟨rfl,i1⟩,h1⟩:=EB h;obtain ⟨c2,r2,e2,⟨rfl,i2⟩,h2⟩:=EB h1;obtain ⟨c3,r3,e3,⟨rfl,_⟩,h3⟩:=EB h2;obtain ⟨c4,r4,e4,⟨v4,rfl,h4⟩,h5⟩:=EB h3;obtain rfl:r4=[]:=h5;subst e4;subst e3;subst e2;subst e1;exact ⟨v4,rfl,h4,i1,i2⟩
set_option maxRecDepth 20000 in
theorem Qz {S} (bp bv bo bf bs:Nat) (vi vn vv vo vf:Value) (root pts:Int) (np:Nat) (nodes:List Ea) (hn:RSl S vn nodes) (hnn:nodes.length≤140737488355328) (hnp:np≤8) :
  ∀ (f:Nat) (M0:List Chunk) (k a b:Int) (s:D5) (w:World),Au k→Au a→Au b→IT nodes np s→left s < f →
  St S (mv bp bv bo bf bs [vi,vn,.int .i64 root,.int .i64 pts] vv vo vf (.func (.func 130) #[] #[.pointer (some ⟨bp,0,none⟩),.pointer (some ⟨bv,0,none⟩),.pointer (some ⟨bo,0,none⟩),.pointer (some ⟨bf,0,none⟩),.pointer (some ⟨bs,0,none⟩)]) nodes.length np s M0) w →
  Ad Tryz.prog 130 [.int .i64 k,.agg #[.int .i64 a,.int .i64 b],.pointer (some ⟨bp,0,none⟩),.pointer (some ⟨bv,0,none⟩),.pointer (some ⟨bo,0,none⟩),.pointer (some ⟨bf,0,none⟩),.pointer (some ⟨bs,0,none⟩)] w
   fun v w'=>v=.tuple #[]∧St S (mv bp bv bo bf bs [vi,vn,.int .i64 root,.int .i64 pts] vv vo vf (.func (.func 130) #[] #[.pointer (some ⟨bp,0,none⟩),.pointer (some ⟨bv,0,none⟩),.pointer (some ⟨bo,0,none⟩),.pointer (some ⟨bf,0,none⟩),.pointer (some ⟨bs,0,none⟩)]) nodes.length np (DL nodes f k (a,b) s) M0) w'
 | 0,_,_,_,_,_,_,_,_,_,_,h,_=>by omega
 | f+1,M0,k,a,b,s,w,hk,ha,hb,hfit,hleft,hst=>by
  have IH:=Lib.hid (Qz bp bv bo bf bs vi vn vv vo vf root pts np nodes hn hnn hnp f);have l1:=hfit.seen;have l2:=hfit.out;have l3:=hfit.found
  cases hg0:goes nodes k s with
  | none =>
   have hv:DL nodes (f+1) k (a,b) s=s:=by rw [DL,hg0]
   rw [hv]
   have hq:k < 0∨(0≤k∧(nodes.length:Int)≤k)∨(0≤k∧∃ h:k.toNat < s.seen.length,s.seen[k.toNat]=true):=by
    unfold goes at hg0;by_cases h0:k < 0
    ·exact .inl h0
    ·by_cases h1:(nodes.length:Int)≤k
     ·exact .inr (.inl ⟨by omega,h1⟩)
     ·refine .inr (.inr ⟨by omega,by omega,?_⟩);have hk1:k.toNat < s.seen.length:=by omega
      have hk2:k.toNat < nodes.length:=by omega
      cases hb:s.seen[k.toNat] with
      | true=>rfl
      | false =>
       rw [if_neg (by rw [X2 hk1,hb];simp;omega),List.getElem?_eq_getElem hk2] at hg0;cases hg0
   unfold mv at hst;unfold Ad;rcases hq with hq|⟨hq,hq2⟩|⟨hq,hq1,hq2⟩
   all_goals (
    go_enter Tryz.func130,Tryz.ntmps130;repeat' (first|go_skip|apply sG ()|(with_reducible refine Sl.k_guard ?_;refine Sl.guard_cases rfl ?_ ?_<;>intro hg<;>first|exact gX|(simp only [hg,Bool.not_true,Bool.not_false])<;>(try refine nX ?_))|(with_reducible refine kI ?_;(refine An hst (Aq hst Ab SlIn.h rfl Aa Aa Af Af) ?_);rintro v hp;(try simp only [Int.toNat_natCast,Int.toNat_natCast_add_one,Int.reduceToNat] at hp)<;>(try refine nX ?_))|(apply gK ();go_step)|(with_reducible refine kL ?_;refine Ag hst (by exact Mg Ab Ak SlIn.h Aa Af) ?_<;>(try refine nX ?_))|apply sX ()|(apply sB ();clear hst;intro bx w hst)|fail)
    all_goals try (exfalso;simp [hq2] at hg;done)
    all_goals (refine bodyPost_ret (results_none rfl _ _ _) rfl ?_;exact ⟨_,rfl,rfl,hst.drop⟩))
  | some nd =>
   obtain ⟨hk0,hks,hkn⟩:=Kr hg0;obtain ⟨hkl,hks'⟩:=List.getElem?_eq_some_iff.1 hks;obtain ⟨hkl2,hkn'⟩:=List.getElem?_eq_some_iff.1 hkn;have h1i:Au 1:=by unfold Au;omega
   have h2i:Au 2:=by unfold Au;omega
   have hle:left (Proofs.YtmmbidoldegemaaGreatDoor.enter k.toNat nd (a,b) s) < f:=by have:=MD (nd:=nd) (ar:=(a,b)) hks;omega
   unfold mv at hst;unfold Ad;go_enter Tryz.func130,Tryz.ntmps130;repeat' ((apply Z4 ());first|apply sG ()|(with_reducible refine Sl.k_guard ?_;refine Sl.guard_cases rfl ?_ ?_<;>intro hg<;>first|exact gX|(simp only [hg,Bool.not_true,Bool.not_false])<;>(try refine nX ?_))|(with_reducible refine kI ?_;(first|refine An hst (Ao Ab Ak rfl Aa Aa Af Af) ?_|refine An hst (Aq hst Ab SlIn.h rfl Aa Aa Af Af) ?_);rintro v hp;(try simp only [Int.toNat_natCast,Int.toNat_natCast_add_one,Int.reduceToNat] at hp)<;>(try refine nX ?_))|(with_reducible refine kS ?_;(first|refine Jm hst rfl BoxIn.h Ab Ak Aa rfl rfl ?_|refine YJ hst Ab Ak SlIn.h Aa Ab Af ?_);clear hst;intro w hst<;>(try refine nX ?_)<;>(try replace hst:=nH hst))|(apply gK ();go_step)|(with_reducible refine kL ?_;refine Ag hst (by exact Mg Ab Ak SlIn.h Aa Af) ?_<;>(try refine nX ?_))|apply sX ()|(apply sD ();intro cl hcl)|(apply sB ();clear hst;intro bx w hst)|(apply sA ();clear hst;intro bk w hst)|fail)
   rw [hkn'] at hcl;obtain ⟨vs,rfl,hof,hI1,hI2⟩:=Mq hcl;clear hks hkn hkn';have hv1:=hof.oneCell;have hofl:nd.2.2.2.1.length≤9223372036854775807:=by obtain ⟨_,_,_,e1,e2⟩:=hof.form;simp only [maxLen] at e2;omega
   have hpt:(B8 nd s=true∧nd.1=12∧0≤nd.2.1∧nd.2.1 < np∧∃ h:nd.2.1.toNat < s.found.length,s.found[nd.2.1.toNat]=false) ∨
     (B8 nd s=false∧(nd.1≠12∨(nd.1=12∧nd.2.1 < 0)∨(nd.1=12∧0≤nd.2.1∧(np:Int)≤nd.2.1)∨(nd.1=12∧0≤nd.2.1∧nd.2.1 < np∧∃ h:nd.2.1.toNat < s.found.length,s.found[nd.2.1.toNat]=true))):=by
    by_cases c1:nd.1=12
    ·by_cases c2:0≤nd.2.1
     ·by_cases c3:nd.2.1 < np
      ·have c4:nd.2.1.toNat < s.found.length:=by omega
       cases c5:s.found[nd.2.1.toNat] with
       | false=>exact .inl ⟨by simp [B8,c1,c2,l2,c3,show s.found[nd.2.1.toNat]?.getD true=false from by rw [List.getElem?_eq_getElem c4];exact c5],c1,c2,c3,c4,c5⟩
       | true=>exact .inr ⟨by simp [B8,show s.found[nd.2.1.toNat]?.getD true=true from by rw [List.getElem?_eq_getElem c4];exact c5],.inr (.inr (.inr ⟨c1,c2,c3,c4,c5⟩))⟩
      ·exact .inr ⟨by simp [B8,l2,c3],.inr (.inr (.inl ⟨c1,c2,by omega⟩))⟩
     ·exact .inr ⟨by simp [B8,c2],.inr (.inl ⟨c1,by omega⟩)⟩
    ·exact .inr ⟨by simp [B8,c1],.inl c1⟩
   go_cut [10] from 37 (fun p wr=>p=.bool (B8 nd s)∧St S (.box bk [.int .i64 nd.1,.int .i64 nd.2.1,.string ⟨nd.2.2.1.b.toArray⟩,vs] 139::.box bx [.int .i64 a,.int .i64 b] 57 ::
      mv bp bv bo bf bs [vi,vn,.int .i64 root,.int .i64 pts] vv vo vf (.func (.func 130) #[] #[.pointer (some ⟨bp,0,none⟩),.pointer (some ⟨bv,0,none⟩),.pointer (some ⟨bo,0,none⟩),.pointer (some ⟨bf,0,none⟩),.pointer (some ⟨bs,0,none⟩)]) nodes.length np ⟨s.seen.set k.toNat true,s.out,s.found⟩ M0) wr)
   case first =>
    rcases hpt with ⟨hip,q1,q2,q3,q4,q5⟩|⟨hip,q1|⟨q1,q2⟩|⟨q1,q2,q3⟩|⟨q1,q2,q3,q4,q5⟩⟩
    all_goals (
     repeat' (first|go_skip|apply sG ()|(with_reducible refine Sl.k_guard ?_;refine Sl.guard_cases rfl ?_ ?_<;>intro hg<;>first|exact gX|(simp only [hg,Bool.not_true,Bool.not_false])<;>(try refine nX ?_))|(with_reducible refine kI ?_;(refine An hst (Aq hst Ab SlIn.h rfl Aa Aa Af Af) ?_);rintro v hp;(try simp only [Int.toNat_natCast,Int.toNat_natCast_add_one,Int.reduceToNat] at hp)<;>(try refine nX ?_))|(apply gK ();go_step)|(with_reducible refine kL ?_;refine Ag hst (by exact Mg Ab Ak SlIn.h Aa Af) ?_<;>(try refine nX ?_))|apply sX ()|fail)
     all_goals try (exfalso;simp [q5] at hg;done)
     all_goals (go_meet;case rel=>exact ⟨by rw [hip],hst⟩))
   case rest =>
    clear hst
    cases hip:B8 nd s with
    | true =>
     rcases hpt with ⟨_,q1,q2,q3,q4,q5⟩|⟨hx,_⟩
     rotate_left
     ·rw [hip] at hx;cases hx
     rw [hip] at hcut;obtain ⟨rfl,hst⟩:=hcut;unfold mv at hst;have hent:Proofs.YtmmbidoldegemaaGreatDoor.enter k.toNat nd (a,b) s=⟨s.seen.set k.toNat true,s.out.set nd.2.1.toNat (a,b),s.found.set nd.2.1.toNat true⟩:=by unfold Proofs.YtmmbidoldegemaaGreatDoor.enter;rw [if_pos hip]
     repeat' (first|(with_reducible refine kI ?_;(refine An hst (Aq hst Ab SlIn.h rfl Aa Aa Af Af) ?_);rintro v hp;(try simp only [Int.toNat_natCast,Int.toNat_natCast_add_one,Int.reduceToNat] at hp)<;>(try refine nX ?_))|(with_reducible refine kS ?_;(first|refine YJ hst Ab Ak SlIn.h Aa Ab Af ?_|refine YK hst Ab Ak SlIn.h Aa Ab Af ?_);clear hst;intro w hst<;>(try refine nX ?_)<;>(try replace hst:=nH hst))|(apply gK ();go_step)|apply sX ()|fail)
     go_loopw [73] (fun v wr=>∃ i:Nat,i≤nd.2.2.2.1.length∧v=.int .i64 i ∧
      St S (.box bk [.int .i64 nd.1,.int .i64 nd.2.1,.string ⟨nd.2.2.1.b.toArray⟩,vs] 139::.box bx [.int .i64 a,.int .i64 b] 57 ::
       mv bp bv bo bf bs [vi,vn,.int .i64 root,.int .i64 pts] vv vo vf (.func (.func 130) #[] #[.pointer (some ⟨bp,0,none⟩),.pointer (some ⟨bv,0,none⟩),.pointer (some ⟨bo,0,none⟩),.pointer (some ⟨bf,0,none⟩),.pointer (some ⟨bs,0,none⟩)]) nodes.length np (Kl nodes f (B8 nd s) nd.2.1 (a,b) nd.2.2.2.1 (Proofs.YtmmbidoldegemaaGreatDoor.enter k.toNat nd (a,b) s) i) M0) wr) (fun v _=>nd.2.2.2.1.length - (intOf v).toNat)
     case atStart=>exact ⟨0,Nat.zero_le _,rfl,by rw [hent];exact hst⟩
     case round =>
      clear hst;obtain ⟨i,hi,rfl,hst⟩:=hrel;unfold mv at hst;by_cases hlt:i < nd.2.2.2.1.length
      ·skip
       rcases (show (i=1)∨(i=2)∨(i≠1∧i≠2) by omega) with hi1|hi2|⟨hi1,hi2⟩
       ·have hin:F2 (B8 nd s) nd.2.1 (a,b) i=(nd.2.1,1):=by rw [hip];subst hi1;rfl
        repeat' (first|apply sG ()|(apply gK ();go_step)|apply sX ()|(apply sN ();intro hI)|(apply sI ();intro v hp)|(apply sS ();clear hst;intro w hst)|(apply sA ();clear hst;intro bk w hst)|fail)
        have c:=IH.out _ _ _ _ _ _ hI hI2 h1i (Ix (hfit.enter _ _ _) i) (Nat.lt_of_le_of_lt (Iw (Nat.le_refl _) i) hle) (Ou [_,_,_] hst);apply VY ()
       ·have hin:F2 (B8 nd s) nd.2.1 (a,b) i=(nd.2.1,2):=by rw [hip];subst hi2;rfl
        repeat' (first|apply sG ()|(apply gK ();go_step)|apply sX ()|(apply sN ();intro hI)|(apply sI ();intro v hp)|(apply sS ();clear hst;intro w hst)|(apply sA ();clear hst;intro bk w hst)|fail)
        have c:=IH.out _ _ _ _ _ _ hI hI2 h2i (Ix (hfit.enter _ _ _) i) (Nat.lt_of_le_of_lt (Iw (Nat.le_refl _) i) hle) (Ou [_,_,_] hst);apply VY ()
       ·have hin:F2 (B8 nd s) nd.2.1 (a,b) i=(a,b):=by rw [hip];simp [F2,hi1,hi2]
        repeat' (first|apply sG ()|(apply gK ();go_step)|apply sX ()|(apply sN ();intro hI)|(apply sI ();intro v hp)|(apply sS ();clear hst;intro w hst)|(apply sA ();clear hst;intro bk w hst)|fail)
        have c:=IH.out _ _ _ _ _ _ hI ha hb (Ix (hfit.enter _ _ _) i) (Nat.lt_of_le_of_lt (Iw (Nat.le_refl _) i) hle) (Ou [_,_,_] hst);apply VY ()
      apply gP ()
    | false =>
     clear hpt;rw [hip] at hcut;obtain ⟨rfl,hst⟩:=hcut;unfold mv at hst;have hent:Proofs.YtmmbidoldegemaaGreatDoor.enter k.toNat nd (a,b) s=⟨s.seen.set k.toNat true,s.out,s.found⟩:=by unfold Proofs.YtmmbidoldegemaaGreatDoor.enter;rw [if_neg (by rw [hip];simp)]
     repeat' (first|(apply gK ();go_step)|apply sX ()|fail)
     go_loopw [73] (fun v wr=>∃ i:Nat,i≤nd.2.2.2.1.length∧v=.int .i64 i ∧
      St S (.box bk [.int .i64 nd.1,.int .i64 nd.2.1,.string ⟨nd.2.2.1.b.toArray⟩,vs] 139::.box bx [.int .i64 a,.int .i64 b] 57 ::
       mv bp bv bo bf bs [vi,vn,.int .i64 root,.int .i64 pts] vv vo vf (.func (.func 130) #[] #[.pointer (some ⟨bp,0,none⟩),.pointer (some ⟨bv,0,none⟩),.pointer (some ⟨bo,0,none⟩),.pointer (some ⟨bf,0,none⟩),.pointer (some ⟨bs,0,none⟩)]) nodes.length np (Kl nodes f (B8 nd s) nd.2.1 (a,b) nd.2.2.2.1 (Proofs.YtmmbidoldegemaaGreatDoor.enter k.toNat nd (a,b) s) i) M0) wr) (fun v _=>nd.2.2.2.1.length - (intOf v).toNat)
     case atStart=>exact ⟨0,Nat.zero_le _,rfl,by rw [hent];exact hst⟩
     case round =>
      clear hst;obtain ⟨i,hi,rfl,hst⟩:=hrel;unfold mv at hst;by_cases hlt:i < nd.2.2.2.1.length
      ·skip
       ·have hin:F2 (B8 nd s) nd.2.1 (a,b) i=(a,b):=by rw [hip];simp [F2]
        repeat' (first|apply sG ()|(apply gK ();go_step)|apply sX ()|(apply sN ();intro hI)|(apply sI ();intro v hp)|(apply sS ();clear hst;intro w hst)|(apply sA ();clear hst;intro bk w hst)|fail)
        have c:=IH.out _ _ _ _ _ _ hI ha hb (Ix (hfit.enter _ _ _) i) (Nat.lt_of_le_of_lt (Iw (Nat.le_refl _) i) hle) (Ou [_,_,_] hst);apply VY ()
      apply gP ()
end Go.Proofs.YtmmbidoldegemaaGreatDoor
