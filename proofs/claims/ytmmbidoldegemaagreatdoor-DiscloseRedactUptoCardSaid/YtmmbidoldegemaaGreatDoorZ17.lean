/- Part 18 of a proof; no conditions. -/
import Derived.Deep.Cut
import Derived.Test.YtmmbidoldegemaaGreatDoorZ03
set_option linter.all false
set_option maxRecDepth 8000
set_option maxHeartbeats 8000000
namespace Go.Proofs.YtmmbidoldegemaaGreatDoor
open Go.RowKit Go.Sl Go.Proofs.Tryz
set_option maxRecDepth 20000 in
theorem FT {S M} (w) (V:St S M w):
  Ac prog 129 [] w fun v w'=>v=.agg #[.int .i64 (-1),.int .i64 0]∧St S M w':=by
 unfold Ac;go_enter func129,ntmps129;repeat' (first|(apply O ();go_step)|(apply sS ();clear V;intro w V)|(apply sA ();clear V;intro bk w V)|fail)
 refine Bl (fn:=f129) rfl V rfl 0 rfl (by infer_instance) rfl (by rfl) ?_;exact ⟨_,rfl,rfl,V.drop⟩
set_option maxRecDepth 20000 in
theorem YL {S M} (w) (V:St S M w) (v1 v2 root pts) (L:Au pts):
  Ac prog 128 [.agg #[v1,v2,.int .i64 root,.int .i64 pts]] w fun v w'=>v=.int .i64 (min (max pts 0) 8)∧St S M w':=by
 unfold Ac;go_enter func128,ntmps128;repeat' (first|(apply O ();go_step)|(apply kc ();refine Ag V (by first|exact Fy rfl rfl|exact VP rfl rfl) ?_<;>apply nW ())|apply sX ()|(apply sB ();clear V;intro bx w V)|fail)
 go_ret;exact ⟨_,rfl,rfl,V.drop⟩
instance nu:Key prog 3 Int 1:=LH kr
instance nt:Key prog 57 (Int×Int) 2:=Mx inferInstance kr kr (by decide)
instance nG:EqTy prog 57:=⟨by kernel_rfl,by kernel_rfl,by kernel_rfl⟩
def Ib (q s:Int) (took:List Int):Bool :=
 if q = -1∧s=0 then false else took.getD q.toNat 0 != -1 && (bits .and .i64 (took.getD q.toNat 0) s == 0)
def Jh (p:Int→Bool) (xs:List Int):Int:=match xs.findIdx? p with|some i=>i|none=>-1
theorem Ug {p} {xs:List Int} {k} (hk:k < xs.length) (hn:∀ j (h:j < xs.length),j < k→p xs[j]=false) (L:p xs[k]=true):Jh p xs=k:=by
 have:xs.findIdx? p=some k:=by
  rw [List.findIdx?_eq_some_iff_getElem];exact ⟨hk,L,fun j hj=>by simp [hn j (by omega) hj]⟩
 simp [Jh,this]
theorem Uh {p xs} (hn:∀ j (h:j < xs.length),p xs[j]=false):Jh p xs = -1:=by
 have:xs.findIdx? p=none:=by
  rw [List.findIdx?_eq_none_iff];intro x hx;obtain ⟨j,hj,rfl⟩:=List.mem_iff_getElem.1 hx;simp [hn j hj]
 simp [Jh,this]
set_option maxRecDepth 20000 in
theorem Rx {S M} (w) (V:St S M w) (vs xs) (hxs:RSl S vs xs) (hm:xs.length≤9223372036854775807) (g) (hg:Body prog g) (ca p) (L:∀ x w,Au x→St S M w→Ac prog g (.int .i64 x::ca) w fun v w'=>v=.bool (p x)∧St S M w'):
  Ac prog 53 [vs,.func (.func g) #[] ca.toArray] w fun v w'=>v=.int .i64 (Jh p xs)∧St S M w':=by
 unfold Ac;have Hp:=Lib.hid L;clear L;go_enter func53,ntmps53;repeat' (first|(apply O ();go_step)|apply sX ()|fail)
 go_loopw [8] (fun v wr=>∃ k:Nat,k≤xs.length∧v=.int .i64 k∧(∀ j (h:j < xs.length),j < k→p xs[j]=false)∧St S M wr) (fun v _=>xs.length - (intOf v).toNat)
 case atStart=>exact ⟨0,Nat.zero_le _,rfl,fun j _ h=>by omega,V⟩
 case round =>
  clear V;obtain ⟨k,hk,rfl,hn,V⟩:=hrel;have Hn:=Lib.hid hn;clear hn;by_cases hlt:k < xs.length
  ·repeat' (first|(apply O ();go_step)|(apply kc ();refine Eh (Hp.out _ _ (by assumption) V) rfl Y rfl rfl ?_;clear V;rintro v w ⟨rfl,V⟩<;>apply nW ()<;>(try replace V:=nH V))|(apply sN ();intro hI)|(apply sI ();intro v L)|fail)
   ·rename_i ht;go_ret;exact ⟨_,rfl,by rw [Ug hlt Hn.out ht];rfl,V⟩
   ·rename_i hf;go_roundw
    case rel=>exact ⟨k+1,by omega,by go_num,fun j hj h=>(by rcases Nat.lt_succ_iff_lt_or_eq.1 h with h|rfl;exact Hn.out j hj h;exact hf),V⟩
    case measure=>simp [intOf];omega
  ·repeat' (first|(apply O ();go_step)|fail)
   go_ret;exact ⟨_,rfl,by rw [Uh (fun j hj=>Hn.out j hj (by omega))];rfl,V⟩
set_option maxRecDepth 20000 in
theorem GX {S M} (w) (V:St S M w) (vs xs) (hxs:RSl S vs xs) (hm:xs.length≤9223372036854775807) (g) (hg:Body prog g) (ca p) (L:∀ x w,Au x→St S M w→Ac prog g (.int .i64 x::ca) w fun v w'=>v=.bool (p x)∧St S M w'):
  Ac prog 25 [vs,.func (.func g) #[] ca.toArray] w fun v w'=>v=.bool (xs.any p)∧St S M w':=by
 unfold Ac;have Hp:=Lib.hid L;clear L;go_enter func25,ntmps25;repeat' (first|(apply O ();go_step)|(apply kc ();refine sc (Rx w V _ xs hxs hm g hg ca p Hp.out) ?_;clear V;rintro v w ⟨rfl,V⟩)|fail)
 go_ret;refine ⟨_,rfl,?_,V⟩;show Value.bool (decide (Jh p xs≥0))=_
 congr 1
 by_cases h:xs.any p=true
 ·obtain ⟨x,hx,hpx⟩:=List.any_eq_true.1 h;rw [h,decide_eq_true]
  cases hf:xs.findIdx? p with
  | none=>rw [List.findIdx?_eq_none_iff] at hf;have:=hf x hx;simp [hpx] at this
  | some i=>simp [Jh,hf]
 ·rw [show xs.any p=false from by simpa using h,decide_eq_false]
  have hf:xs.findIdx? p=none:=by
   rw [List.findIdx?_eq_none_iff];intro x hx
   cases hpx:p x with
   | false=>rfl
   | true=>exact (h (List.any_eq_true.2 ⟨x,hx,hpx⟩)).elim
  simp [Jh,hf]
set_option maxRecDepth 20000 in
theorem Xv {S M} (w) (V:St S M w) (b k:Nat) (x least) (hk:M[k]? = some (.box b [.int .i64 least] 3)):
  Ac prog 131 [.int .i64 x,.pointer (some ⟨b,0,none⟩)] w fun v w'=>v=.bool (decide (x < least) || decide (x > 3))∧St S M w':=by
 unfold Ac;go_enter func131,ntmps131;repeat' (first|go_skip|apply sG ()|(with_reducible refine Sl.k_guard ?_;refine Sl.guard_cases rfl ?_ ?_<;>intro hg<;>(simp only [hg,Bool.not_true,Bool.not_false])<;>apply nW ())|(apply O ();go_step)|(apply tL ();refine Ag V (by exact AT rfl _ Ak Y rfl rfl) ?_<;>apply nW ())|fail)
 ·go_ret;exact ⟨_,rfl,by rw [hg,Bool.false_or];rfl,V⟩
 ·go_ret;exact ⟨_,rfl,by rw [hg];rfl,V⟩
def Gs (took:List Int) (n least:Int):Bool:=decide ((took.length:Int)=n) && !took.any fun x=>decide (x < least) || decide (x > 3)
set_option maxRecDepth 20000 in
theorem RJ {S M} (w) (V:St S M w) (vs took) (hxs:RSl S vs took) (hm:took.length≤9223372036854775807) (n least):
  Ac prog 87 [vs,.int .i64 n,.int .i64 least] w fun v w'=>v=.bool (Gs took n least)∧St S M w':=by
 unfold Ac;go_enter func87,ntmps87;repeat' (first|go_skip|apply sG ()|(with_reducible refine Sl.k_guard ?_;refine Sl.guard_cases rfl ?_ ?_<;>intro hg<;>(simp only [hg,Bool.not_true,Bool.not_false])<;>apply nW ())|(apply O ();go_step)|(apply kc ();refine sc (GX _ V _ took hxs hm 131 (by infer_instance) [_] _ (fun x w hx V=>Xv w V _ 0 x least rfl)) ?_;clear V;rintro v w ⟨rfl,V⟩)|apply sX ()|(apply sB ();clear V;intro bx w V)|fail)
 ·rename_i hg;go_ret;refine ⟨_,rfl,?_,V.drop⟩;rw [Gs,decide_eq_true (by simpa using hg)];rfl
 ·rename_i hg;go_ret;refine ⟨_,rfl,?_,V.drop⟩;rw [Gs,decide_eq_false (by simpa using hg)];rfl
abbrev IZ:=Int×Int×Cv×List Int×Unit
structure Gr where
 seen:List Bool
 out:List (Int×Int)
 found:List Bool
def Ck (nd:IZ) (s:Gr):Bool:=decide (nd.1=12) && (decide (0≤nd.2.1) && (decide (nd.2.1 < s.out.length) && !(s.found.getD nd.2.1.toNat true)))
def GC (pt:Bool) (n:Int) (ar:Int×Int) (i:Nat):Int×Int:=if pt=true∧i=2 then (n,2) else if pt=true∧i=1 then (n,1) else ar
def enter (k:Nat) (nd:IZ) (ar:Int×Int) (s:Gr):Gr :=
 if Ck nd s then ⟨s.seen.set k true,s.out.set nd.2.1.toNat ar,s.found.set nd.2.1.toNat true⟩ else ⟨s.seen.set k true,s.out,s.found⟩
def goes (nodes:List IZ) (k:Int) (s:Gr):Option IZ:=if k < 0∨s.seen.getD k.toNat true=true then none else nodes[k.toNat]?
def Ec (nodes:List IZ):Nat→Int→Int×Int→Gr→Gr
 | 0,_,_,s=>s
 | f+1,k,ar,s =>
  match goes nodes k s with
  | none=>s
  | some nd=>(List.range nd.2.2.2.1.length).foldl (fun t i=>Ec nodes f (nd.2.2.2.1.getD i 0) (GC (Ck nd s) nd.2.1 ar i) t) (enter k.toNat nd ar s)
def La (nodes:List IZ) (f:Nat) (pt:Bool) (n:Int) (ar:Int×Int) (ofs:List Int) (e:Gr) (i:Nat):Gr :=
 (List.range i).foldl (fun t i=>Ec nodes f (ofs.getD i 0) (GC pt n ar i) t) e
theorem Wh (nodes f pt n ar ofs e i):
  La nodes f pt n ar ofs e (i+1)=Ec nodes f (ofs.getD i 0) (GC pt n ar i) (La nodes f pt n ar ofs e i):=by
 simp [La,List.range_succ,List.foldl_append]
theorem SW {nodes f k ar s nd} (h:goes nodes k s=some nd):
  Ec nodes (f+1) k ar s=La nodes f (Ck nd s) nd.2.1 ar nd.2.2.2.1 (enter k.toNat nd ar s) nd.2.2.2.1.length:=by
 rw [Ec,h];rfl
def left (s:Gr):Nat:=s.seen.count false
structure JF (nodes:List IZ) (np:Nat) (s:Gr):Prop where
 seen:s.seen.length=nodes.length
 out:s.out.length=np
 found:s.found.length=np
theorem JF.enter {nodes np s} (h:JF nodes np s) (k nd ar):JF nodes np (enter k nd ar s):=by
 unfold Proofs.YtmmbidoldegemaaGreatDoor.enter;split<;>exact ⟨by simp [h.seen],by simp [h.out],by simp [h.found]⟩
theorem DW {α β:Type} {p:α→Prop} {f} (h:∀ a b,p a→p (f a b)) (l:List β):∀ a,p a→p (l.foldl f a):=by
 induction l with
 | nil=>exact fun a h=>h
 | cons b l ih=>exact fun a ha=>ih _ (h _ _ ha)
theorem J3 {nodes:List IZ} {np:Nat}:∀ (f:Nat) (k:Int) (ar:Int×Int) (s:Gr),JF nodes np s→JF nodes np (Ec nodes f k ar s)
 | 0,_,_,_,h=>h
 | f+1,k,ar,s,h=>by
  unfold Ec;split
  ·exact h
  ·exact DW (p:=JF nodes np) (fun t i ht=>J3 f _ _ t ht) _ _ (h.enter _ _ _)
theorem WO {l:List Bool} {k} (h:l[k]? = some false):(l.set k true).count false+1=l.count false:=by
 induction l generalizing k with
 | nil=>simp at h
 | cons b l ih =>
  cases k with
  | zero=>simp at h;subst h;simp
  | succ k=>simp at h;have:=ih h;cases b<;>simp<;>omega
theorem NE {k nd ar s} (h:s.seen[k]? = some false):left (enter k nd ar s)+1=left s:=by
 unfold enter left;split<;>exact WO h
theorem Lg {nodes k s nd} (h:goes nodes k s=some nd):0≤k∧s.seen[k.toNat]? = some false∧nodes[k.toNat]? = some nd:=by
 unfold goes at h;split at h
 ·cases h
 ·rename_i hc;refine ⟨by omega,?_,h⟩;have:¬ s.seen.getD k.toNat true=true:=fun e=>hc (.inr e)
  rw [List.getD_eq_getElem?_getD] at this
  cases hs:s.seen[k.toNat]? with
  | none=>rw [hs] at this;simp at this
  | some b=>rw [hs] at this;cases b;rfl;simp at this
theorem MR {nodes:List IZ}:∀ (f:Nat) (k:Int) (ar:Int×Int) (s:Gr) (n:Nat),left s≤n→left (Ec nodes f k ar s)≤n
 | 0,_,_,_,_,h=>h
 | f+1,k,ar,s,n,h=>by
  unfold Ec;split
  ·exact h
  ·rename_i nd hg;have:=NE (nd:=nd) (ar:=ar) (Lg hg).2.1;exact DW (p:=fun s=>left s≤n) (fun t i ht=>MR f _ _ t n ht) _ _ (by omega)
theorem Jf {nodes np f pt n ar ofs e} (h:JF nodes np e) (i):JF nodes np (La nodes f pt n ar ofs e i) :=
 DW (p:=JF nodes np) (fun t i ht=>J3 f _ _ t ht) _ _ h
theorem Je {nodes m f pt n ar ofs e} (h:left e≤m) (i):left (La nodes f pt n ar ofs e i)≤m :=
 DW (p:=fun s=>left s≤m) (fun t i ht=>MR f _ _ t m ht) _ _ h
def mv (bp bv bo bf bs:Nat) (pc:List Value) (vv vo vf fv:Value) (nn np:Nat) (s:Gr) (M0:List J):List J :=
 .box bp pc 87::.box bv [vv] 204::.box bo [vo] 28::.box bf [vf] 204::.box bs [fv] 211::.sl vv 4 1 nn (cF Fb s.seen)::.sl vo 57 2 np (cF Bi s.out)::.sl vf 4 1 np (cF Fb s.found)::M0
theorem Ko {l:List Int} {i} (h):l.getD i 0=l[i]:=by simp [List.getD,List.getElem?_eq_getElem h]
theorem Zr {l:List Bool} {i} (h):l.getD i true=l[i]:=by simp [List.getD,List.getElem?_eq_getElem h]
theorem Pu {S w bp bv bo bf bs pc vv vo vf fv nn np s M0} (A) (h:St S (A++mv bp bv bo bf bs pc vv vo vf fv nn np s M0) w):St S (mv bp bv bo bf bs pc vv vo vf fv nn np s (A++M0)) w :=
 h.perm (List.perm_append_comm_assoc A (mv bp bv bo bf bs pc vv vo vf fv nn np s []) M0)
theorem fL {S w bp bv bo bf bs pc vv vo vf fv nn np s M0} (A) (h:St S (mv bp bv bo bf bs pc vv vo vf fv nn np s (A++M0)) w):St S (A++mv bp bv bo bf bs pc vv vo vf fv nn np s M0) w :=
 h.perm (List.perm_append_comm_assoc A (mv bp bv bo bf bs pc vv vo vf fv nn np s []) M0).symm
theorem E5 {α β:Type} [Z α] [Z β] {S cs} {x:α} {y:β} (h:Z.R S cs (x,y)):∃ c1 c2,cs=c1++c2∧Z.R S c1 x∧Z.R S c2 y :=
 ⟨_,_,(List.take_append_drop (Z.z α) cs).symm,h.2.1,h.2.2⟩
theorem Nq {S cs} {nd:IZ} (h:Z.R S cs nd):∃ vs,cs=[.int .i64 nd.1,.int .i64 nd.2.1,.string ⟨nd.2.2.1.b.toArray⟩,vs]∧RSl S vs nd.2.2.2.1∧Au nd.1∧Au nd.2.1:=by
 obtain ⟨kd,n,sb,ofs,u⟩:=nd;obtain ⟨c1,r1,e1,⟨rfl,i1⟩,h1⟩:=E5 h;obtain ⟨c2,r2,e2,⟨rfl,i2⟩,h2⟩:=E5 h1;obtain ⟨c3,r3,e3,⟨rfl,_⟩,h3⟩:=E5 h2;obtain ⟨c4,r4,e4,⟨v4,rfl,h4⟩,h5⟩:=E5 h3;obtain rfl:r4=[]:=h5;subst e4;subst e3;subst e2;subst e1;exact ⟨v4,rfl,h4,i1,i2⟩
set_option maxRecDepth 20000 in
theorem RG {S} (bp bv bo bf bs:Nat) (vi vn vv vo vf:Value) (root pts:Int) (np:Nat) (nodes:List IZ) (hn:RSl S vn nodes) (hnn:nodes.length≤140737488355328) (hnp:np≤8) :
  ∀ (f:Nat) (M0:List J) (k a b:Int) (s:Gr) (w:World),Au k→Au a→Au b→JF nodes np s→left s < f →
  St S (mv bp bv bo bf bs [vi,vn,.int .i64 root,.int .i64 pts] vv vo vf (.func (.func 130) #[] #[.pointer (some ⟨bp,0,none⟩),.pointer (some ⟨bv,0,none⟩),.pointer (some ⟨bo,0,none⟩),.pointer (some ⟨bf,0,none⟩),.pointer (some ⟨bs,0,none⟩)]) nodes.length np s M0) w →
  Ac prog 130 [.int .i64 k,.agg #[.int .i64 a,.int .i64 b],.pointer (some ⟨bp,0,none⟩),.pointer (some ⟨bv,0,none⟩),.pointer (some ⟨bo,0,none⟩),.pointer (some ⟨bf,0,none⟩),.pointer (some ⟨bs,0,none⟩)] w
   fun v w'=>v=.tuple #[]∧St S (mv bp bv bo bf bs [vi,vn,.int .i64 root,.int .i64 pts] vv vo vf (.func (.func 130) #[] #[.pointer (some ⟨bp,0,none⟩),.pointer (some ⟨bv,0,none⟩),.pointer (some ⟨bo,0,none⟩),.pointer (some ⟨bf,0,none⟩),.pointer (some ⟨bs,0,none⟩)]) nodes.length np (Ec nodes f k (a,b) s) M0) w'
 | 0,_,_,_,_,_,_,_,_,_,_,h,_=>by omega
 | f+1,M0,k,a,b,s,w,hk,ha,hb,hfit,hleft,V=>by
  have IH:=Lib.hid (RG bp bv bo bf bs vi vn vv vo vf root pts np nodes hn hnn hnp f);have l1:=hfit.seen;have l2:=hfit.out;have l3:=hfit.found
  cases hg0:goes nodes k s with
  | none =>
   have hv:Ec nodes (f+1) k (a,b) s=s:=by rw [Ec,hg0]
   rw [hv]
   have hq:k < 0∨(0≤k∧(nodes.length:Int)≤k)∨(0≤k∧∃ h:k.toNat < s.seen.length,s.seen[k.toNat]=true):=by
    unfold goes at hg0;by_cases h0:k < 0
    ·exact .inl h0
    ·by_cases h1:(nodes.length:Int)≤k
     ·exact .inr (.inl ⟨by omega,h1⟩)
     ·refine .inr (.inr ⟨by omega,by omega,?_⟩);have hk1:k.toNat < s.seen.length:=by omega
      have hk2:k.toNat < nodes.length:=by omega
      cases hb:s.seen[k.toNat] with
      | true=>rfl
      | false =>
       rw [if_neg (by rw [Zr hk1,hb];simp;omega),List.getElem?_eq_getElem hk2] at hg0;cases hg0
   unfold mv at V;unfold Ac;rcases hq with hq|⟨hq,hq2⟩|⟨hq,hq1,hq2⟩
   all_goals (
    go_enter func130,ntmps130;repeat' (first|go_skip|apply sG ()|(with_reducible refine Sl.k_guard ?_;refine Sl.guard_cases rfl ?_ ?_<;>intro hg<;>first|exact gX|(simp only [hg,Bool.not_true,Bool.not_false])<;>apply nW ())|(apply tI ();(refine An V (Ao V X SlIn.h rfl Y Y Af Af) ?_);rintro v L;(try simp only [Int.toNat_natCast,Int.toNat_natCast_add_one,Int.reduceToNat] at L)<;>apply nW ())|(apply O ();go_step)|(apply tL ();refine Ag V (by exact Nb X Ak SlIn.h Y Af) ?_<;>apply nW ())|apply sX ()|(apply sB ();clear V;intro bx w V)|fail)
    all_goals try (exfalso;simp [hq2] at hg;done)
    all_goals (refine bodyPost_ret (results_none rfl _ _ _) rfl ?_;exact ⟨_,rfl,rfl,V.drop⟩))
  | some nd =>
   obtain ⟨hk0,hks,hkn⟩:=Lg hg0;obtain ⟨hkl,hks'⟩:=List.getElem?_eq_some_iff.1 hks;obtain ⟨hkl2,hkn'⟩:=List.getElem?_eq_some_iff.1 hkn;have h1i:Au 1:=by unfold Au;omega
   have h2i:Au 2:=by unfold Au;omega
   have hle:left (Proofs.YtmmbidoldegemaaGreatDoor.enter k.toNat nd (a,b) s) < f:=by have:=NE (nd:=nd) (ar:=(a,b)) hks;omega
   unfold mv at V;unfold Ac;go_enter func130,ntmps130;repeat' ((apply ZZ 4);first|apply sG ()|(with_reducible refine Sl.k_guard ?_;refine Sl.guard_cases rfl ?_ ?_<;>intro hg<;>first|exact gX|(simp only [hg,Bool.not_true,Bool.not_false])<;>apply nW ())|(apply tI ();(first|refine An V (Aq X Ak rfl Y Y Af Af) ?_|refine An V (Ao V X SlIn.h rfl Y Y Af Af) ?_);rintro v L;(try simp only [Int.toNat_natCast,Int.toNat_natCast_add_one,Int.reduceToNat] at L)<;>apply nW ())|(apply tS ();(first|refine I4 V rfl N.h X Ak Y rfl rfl ?_|refine Z4 V X Ak SlIn.h Y X Af ?_);clear V;intro w V<;>apply nW ()<;>(try replace V:=nH V))|(apply O ();go_step)|(apply tL ();refine Ag V (by exact Nb X Ak SlIn.h Y Af) ?_<;>apply nW ())|apply sX ()|(apply sD ();intro cl hcl)|(apply sB ();clear V;intro bx w V)|(apply sA ();clear V;intro bk w V)|fail)
   rw [hkn'] at hcl;obtain ⟨vs,rfl,hof,hI1,hI2⟩:=Nq hcl;clear hks hkn hkn';have hv1:=hof.oneCell;have hofl:nd.2.2.2.1.length≤9223372036854775807:=by obtain ⟨_,_,_,e1,e2⟩:=hof.form;simp only [maxLen] at e2;omega
   have hpt:(Ck nd s=true∧nd.1=12∧0≤nd.2.1∧nd.2.1 < np∧∃ h:nd.2.1.toNat < s.found.length,s.found[nd.2.1.toNat]=false) ∨
     (Ck nd s=false∧(nd.1≠12∨(nd.1=12∧nd.2.1 < 0)∨(nd.1=12∧0≤nd.2.1∧(np:Int)≤nd.2.1)∨(nd.1=12∧0≤nd.2.1∧nd.2.1 < np∧∃ h:nd.2.1.toNat < s.found.length,s.found[nd.2.1.toNat]=true))):=by
    by_cases c1:nd.1=12
    ·by_cases c2:0≤nd.2.1
     ·by_cases c3:nd.2.1 < np
      ·have c4:nd.2.1.toNat < s.found.length:=by omega
       cases c5:s.found[nd.2.1.toNat] with
       | false=>exact .inl ⟨by simp [Ck,c1,c2,l2,c3,show s.found[nd.2.1.toNat]?.getD true=false from by rw [List.getElem?_eq_getElem c4];exact c5],c1,c2,c3,c4,c5⟩
       | true=>exact .inr ⟨by simp [Ck,show s.found[nd.2.1.toNat]?.getD true=true from by rw [List.getElem?_eq_getElem c4];exact c5],.inr (.inr (.inr ⟨c1,c2,c3,c4,c5⟩))⟩
      ·exact .inr ⟨by simp [Ck,l2,c3],.inr (.inr (.inl ⟨c1,c2,by omega⟩))⟩
     ·exact .inr ⟨by simp [Ck,c2],.inr (.inl ⟨c1,by omega⟩)⟩
    ·exact .inr ⟨by simp [Ck,c1],.inl c1⟩
   go_cut [10] from 37 (fun p wr=>p=.bool (Ck nd s)∧St S (.box bk [.int .i64 nd.1,.int .i64 nd.2.1,.string ⟨nd.2.2.1.b.toArray⟩,vs] 139::.box bx [.int .i64 a,.int .i64 b] 57 ::
      mv bp bv bo bf bs [vi,vn,.int .i64 root,.int .i64 pts] vv vo vf (.func (.func 130) #[] #[.pointer (some ⟨bp,0,none⟩),.pointer (some ⟨bv,0,none⟩),.pointer (some ⟨bo,0,none⟩),.pointer (some ⟨bf,0,none⟩),.pointer (some ⟨bs,0,none⟩)]) nodes.length np ⟨s.seen.set k.toNat true,s.out,s.found⟩ M0) wr)
   case first =>
    rcases hpt with ⟨hip,q1,q2,q3,q4,q5⟩|⟨hip,q1|⟨q1,q2⟩|⟨q1,q2,q3⟩|⟨q1,q2,q3,q4,q5⟩⟩
    all_goals (
     repeat' (first|go_skip|apply sG ()|(with_reducible refine Sl.k_guard ?_;refine Sl.guard_cases rfl ?_ ?_<;>intro hg<;>first|exact gX|(simp only [hg,Bool.not_true,Bool.not_false])<;>apply nW ())|(apply tI ();(refine An V (Ao V X SlIn.h rfl Y Y Af Af) ?_);rintro v L;(try simp only [Int.toNat_natCast,Int.toNat_natCast_add_one,Int.reduceToNat] at L)<;>apply nW ())|(apply O ();go_step)|(apply tL ();refine Ag V (by exact Nb X Ak SlIn.h Y Af) ?_<;>apply nW ())|apply sX ()|fail)
     all_goals try (exfalso;simp [q5] at hg;done)
     all_goals (go_meet;case rel=>exact ⟨by rw [hip],V⟩))
   case rest =>
    clear V
    cases hip:Ck nd s with
    | true =>
     rcases hpt with ⟨_,q1,q2,q3,q4,q5⟩|⟨hx,_⟩
     rotate_left
     ·rw [hip] at hx;cases hx
     rw [hip] at hcut;obtain ⟨rfl,V⟩:=hcut;unfold mv at V;have hent:Proofs.YtmmbidoldegemaaGreatDoor.enter k.toNat nd (a,b) s=⟨s.seen.set k.toNat true,s.out.set nd.2.1.toNat (a,b),s.found.set nd.2.1.toNat true⟩:=by unfold Proofs.YtmmbidoldegemaaGreatDoor.enter;rw [if_pos hip]
     repeat' (first|(apply tI ();(refine An V (Ao V X SlIn.h rfl Y Y Af Af) ?_);rintro v L;(try simp only [Int.toNat_natCast,Int.toNat_natCast_add_one,Int.reduceToNat] at L)<;>apply nW ())|(apply tS ();(first|refine Z4 V X Ak SlIn.h Y X Af ?_|refine Z5 V X Ak SlIn.h Y X Af ?_);clear V;intro w V<;>apply nW ()<;>(try replace V:=nH V))|(apply O ();go_step)|apply sX ()|fail)
     go_loopw [73] (fun v wr=>∃ i:Nat,i≤nd.2.2.2.1.length∧v=.int .i64 i ∧
      St S (.box bk [.int .i64 nd.1,.int .i64 nd.2.1,.string ⟨nd.2.2.1.b.toArray⟩,vs] 139::.box bx [.int .i64 a,.int .i64 b] 57 ::
       mv bp bv bo bf bs [vi,vn,.int .i64 root,.int .i64 pts] vv vo vf (.func (.func 130) #[] #[.pointer (some ⟨bp,0,none⟩),.pointer (some ⟨bv,0,none⟩),.pointer (some ⟨bo,0,none⟩),.pointer (some ⟨bf,0,none⟩),.pointer (some ⟨bs,0,none⟩)]) nodes.length np (La nodes f (Ck nd s) nd.2.1 (a,b) nd.2.2.2.1 (Proofs.YtmmbidoldegemaaGreatDoor.enter k.toNat nd (a,b) s) i) M0) wr) (fun v _=>nd.2.2.2.1.length - (intOf v).toNat)
     case atStart=>exact ⟨0,Nat.zero_le _,rfl,by rw [hent];exact V⟩
     case round =>
      clear V;obtain ⟨i,hi,rfl,V⟩:=hrel;unfold mv at V;by_cases hlt:i < nd.2.2.2.1.length
      ·skip
       rcases (show (i=1)∨(i=2)∨(i≠1∧i≠2) by omega) with hi1|hi2|⟨hi1,hi2⟩
       ·have hin:GC (Ck nd s) nd.2.1 (a,b) i=(nd.2.1,1):=by rw [hip];subst hi1;rfl
        repeat' (first|apply sG ()|(apply O ();go_step)|apply sX ()|(apply sN ();intro hI)|(apply sI ();intro v L)|(apply sS ();clear V;intro w V)|(apply sA ();clear V;intro bk w V)|fail)
        have c:=IH.out _ _ _ _ _ _ hI hI2 h1i (Jf (hfit.enter _ _ _) i) (Nat.lt_of_le_of_lt (Je (Nat.le_refl _) i) hle) (Pu [_,_,_] V);apply au ()
       ·have hin:GC (Ck nd s) nd.2.1 (a,b) i=(nd.2.1,2):=by rw [hip];subst hi2;rfl
        repeat' (first|apply sG ()|(apply O ();go_step)|apply sX ()|(apply sN ();intro hI)|(apply sI ();intro v L)|(apply sS ();clear V;intro w V)|(apply sA ();clear V;intro bk w V)|fail)
        have c:=IH.out _ _ _ _ _ _ hI hI2 h2i (Jf (hfit.enter _ _ _) i) (Nat.lt_of_le_of_lt (Je (Nat.le_refl _) i) hle) (Pu [_,_,_] V);apply au ()
       ·have hin:GC (Ck nd s) nd.2.1 (a,b) i=(a,b):=by rw [hip];simp [GC,hi1,hi2]
        repeat' (first|apply sG ()|(apply O ();go_step)|apply sX ()|(apply sN ();intro hI)|(apply sI ();intro v L)|(apply sS ();clear V;intro w V)|(apply sA ();clear V;intro bk w V)|fail)
        have c:=IH.out _ _ _ _ _ _ hI ha hb (Jf (hfit.enter _ _ _) i) (Nat.lt_of_le_of_lt (Je (Nat.le_refl _) i) hle) (Pu [_,_,_] V);apply au ()
      apply jI ()
    | false =>
     clear hpt;rw [hip] at hcut;obtain ⟨rfl,V⟩:=hcut;unfold mv at V;have hent:Proofs.YtmmbidoldegemaaGreatDoor.enter k.toNat nd (a,b) s=⟨s.seen.set k.toNat true,s.out,s.found⟩:=by unfold Proofs.YtmmbidoldegemaaGreatDoor.enter;rw [if_neg (by rw [hip];simp)]
     repeat' (first|(apply O ();go_step)|apply sX ()|fail)
     go_loopw [73] (fun v wr=>∃ i:Nat,i≤nd.2.2.2.1.length∧v=.int .i64 i ∧
      St S (.box bk [.int .i64 nd.1,.int .i64 nd.2.1,.string ⟨nd.2.2.1.b.toArray⟩,vs] 139::.box bx [.int .i64 a,.int .i64 b] 57 ::
       mv bp bv bo bf bs [vi,vn,.int .i64 root,.int .i64 pts] vv vo vf (.func (.func 130) #[] #[.pointer (some ⟨bp,0,none⟩),.pointer (some ⟨bv,0,none⟩),.pointer (some ⟨bo,0,none⟩),.pointer (some ⟨bf,0,none⟩),.pointer (some ⟨bs,0,none⟩)]) nodes.length np (La nodes f (Ck nd s) nd.2.1 (a,b) nd.2.2.2.1 (Proofs.YtmmbidoldegemaaGreatDoor.enter k.toNat nd (a,b) s) i) M0) wr) (fun v _=>nd.2.2.2.1.length - (intOf v).toNat)
     case atStart=>exact ⟨0,Nat.zero_le _,rfl,by rw [hent];exact V⟩
     case round =>
      clear V;obtain ⟨i,hi,rfl,V⟩:=hrel;unfold mv at V;by_cases hlt:i < nd.2.2.2.1.length
      ·skip
       ·have hin:GC (Ck nd s) nd.2.1 (a,b) i=(a,b):=by rw [hip];simp [GC]
        repeat' (first|apply sG ()|(apply O ();go_step)|apply sX ()|(apply sN ();intro hI)|(apply sI ();intro v L)|(apply sS ();clear V;intro w V)|(apply sA ();clear V;intro bk w V)|fail)
        have c:=IH.out _ _ _ _ _ _ hI ha hb (Jf (hfit.enter _ _ _) i) (Nat.lt_of_le_of_lt (Je (Nat.le_refl _) i) hle) (Pu [_,_,_] V);apply au ()
      apply jI ()
def CL (pts:Int):Nat:=(min (max pts 0) 8).toNat
def BM (nodes:List IZ) (root pts:Int):List (Int×Int) :=
 (Ec nodes (nodes.length+1) root (-1,0) ⟨List.replicate nodes.length false,List.replicate (CL pts) (-1,0),List.replicate (CL pts) false⟩).out
theorem YK {S M} (w) (V:St S M w) (v1 v2 root pts) (L:Au pts):
  Ac prog 128 [.agg #[v1,v2,.int .i64 root,.int .i64 pts]] w fun v w'=>v=.int .i64 (CL pts:Nat)∧St S M w' :=
 Ac.mono (YL w V v1 v2 root pts L) fun v w' h=>⟨by rw [h.1];congr 1;simp only [CL];omega,h.2⟩
theorem KT {α:Type} (f:α→List Value) (x n):(List.replicate n (f x)).flatten=cF f (List.replicate n x):=by simp [cF]
theorem CS {v:Value} (h:v.oneCell'=true):v.cells.toList=[v]:=by
 cases v<;>first|rfl|simp [Value.oneCell'] at h
theorem G2 {P ops rest} {Q:Exit→Act→World→Prop} {l D w ty pos af S M T B x y zero c bb b off k v} (V:St S M w) (hx:Ai l x=.pointer (some ⟨b,off,none⟩)) (hk:M[k]? = some (.box b c B)) (hy:Ai l y=v) (h1:v.oneCell'=true) (hT:Ty P T false 1 zero bb) (hf:off+1≤c.length) (h:∀ w',St S (M.set k (.box b (c.take off++[v]++c.drop (off+1)) B)) w'→wpList P ops Q rest ⟨l.toArray,D⟩ w'):
  wpList P ops Q (⟨none,.store T x y,ty,pos,af,none⟩::rest) ⟨l.toArray,D⟩ w :=
 Ax V hx k hk hT hy (CS h1) rfl (by simp [h1]) hf h
theorem AY {S M w v T z n c} (h:St S (.sl v T z n c::M) w):v.oneCell'=true:=by
 rcases (h.get (k:=0) rfl).2 with ⟨rfl,_⟩|⟨g,cap,cur,fz,rfl,_⟩<;>rfl
theorem iK (a b c d e f g h:J) (M):(a::b::c::d::e::f::g::h::M).Perm (h::b::f::d::a::c::g::e::M) :=
 ((show [0,1,2,3,4,5,6,7].Perm [7,1,5,3,0,2,6,4] by decide).map (fun i=>[a,b,c,d,e,f,g,h].getD i a)).append_right M
def UH (s:Gr):Prop:=∀ p∈s.out,Au p.1∧Au p.2
theorem MS {nodes:List IZ} (hN:∀ nd∈nodes,Au nd.2.1):∀ (f:Nat) (k:Int) (ar:Int×Int) (s:Gr),Au ar.1∧Au ar.2→UH s→UH (Ec nodes f k ar s)
 | 0,_,_,_,_,h=>h
 | f+1,k,ar,s,ha,h=>by
  unfold Ec;split
  ·exact h
  ·rename_i nd hg;have hnd:=hN nd (List.mem_of_getElem? (Lg hg).2.2);refine DW (p:=UH) (fun t i ht=>MS hN f _ _ t ?_ ht) _ _ ?_
   ·unfold GC;split
    ·exact ⟨hnd,by unfold Au;omega⟩
    ·split
     ·exact ⟨hnd,by unfold Au;omega⟩
     ·exact ha
   ·unfold Proofs.YtmmbidoldegemaaGreatDoor.enter;split
    ·intro p L;rcases List.mem_or_eq_of_mem_set L with L|rfl
     ·exact h p L
     ·exact ha
    ·exact h
theorem Yt {S xs} (h:∀ p∈xs,Au p.1∧Au p.2):RL S (cF Bi xs) xs:=by
 refine ⟨FX (f:=Bi) (z:=2) (fun _=>rfl) xs,fun i x hx=>?_⟩;obtain ⟨hi,rfl⟩:=List.getElem?_eq_some_iff.1 hx;have:=JV (f:=Bi) (z:=2) (fun _=>rfl) xs i hi;have h':=h _ (List.getElem_mem hi);show Z.R S (((cF Bi xs).drop (i * 2)).take 2) _;rw [this];exact AG (x:=xs[i].1) (y:=xs[i].2) ⟨rfl,h'.1⟩ ⟨rfl,h'.2⟩
theorem YY {S vn} {nodes:List IZ} (hn:RSl S vn nodes):∀ nd∈nodes,Au nd.2.1:=by
 intro nd hnd;obtain ⟨i,hi,rfl⟩:=List.mem_iff_getElem.1 hnd;rcases hn with ⟨ad,cap,_,h,_⟩|⟨b,o,cap,c,T,fz,_,_,_,_,h⟩
 ·subst h;simp at hi
 ·obtain ⟨vs,_,_,_,h2⟩:=Nq (h.at_ i hi);exact h2
set_option maxRecDepth 20000 in
theorem Mh {S M} (w) (V:St S M w) (vi vn root pts) (ins:List (Cv×Int×Int×Int×Unit)) (nodes) (hi:RSl S vi ins) (hn:RSl S vn nodes) (hnn:nodes.length≤140737488355328) (hr:Au root) (L:Au pts):
  Ac prog 86 [.agg #[vi,vn,.int .i64 root,.int .i64 pts]] w fun v w'=>∃ S',S.Le S'∧RSl S' v (BM nodes root pts)∧St S' M w':=by
 unfold Ac;have h1:=hi.oneCell;have h2:=hn.oneCell;have hnp:CL pts≤8:=by unfold CL;omega
 go_enter func86,ntmps86;repeat' (first|(apply O ();go_step)|(apply kc ();refine sc (YK w V vi vn root pts L) ?_;clear V;rintro v w ⟨rfl,V⟩)|apply sX ()|(apply sB ();clear V;intro bx w V)|fail)
 refine JI V (by infer_instance) (by infer_instance) X X (by omega) (by omega) ?_;clear V;intro vo w V;have hvo:=AY V;have V:=(show St S (.sl vo 57 2 (CL pts) (List.replicate (CL pts) (Bi (0,0))).flatten::_) _ from V)
 rw [KT] at V;refine nX ?_;repeat' (first|(apply tS ();refine G2 V rfl N.h X Ak Y (by simp) ?_;clear V;intro w V<;>apply nW ()<;>(try replace V:=nH V))|(apply O ();go_step)|apply sX ()|(apply sA ();clear V;intro bk w V)|fail)
 refine JI (n:=CL pts) V (by infer_instance) (by infer_instance) X X (by omega) (by omega) ?_;clear V;intro vf w V;have hvf:=AY V;have V:=(show St S (.sl vf 4 1 (CL pts) (List.replicate (CL pts) (Fb false)).flatten::_) _ from V)
 rw [KT] at V;refine nX ?_;repeat' (first|(apply tS ();refine G2 V rfl N.h X Ak Y (by simp) ?_;clear V;intro w V<;>apply nW ()<;>(try replace V:=nH V))|(apply O ();go_step)|apply sX ()|(apply sA ();clear V;intro bk w V)|fail)
 go_loopw [16] (fun v wr=>∃ (i:Nat) (xs:List (Int×Int)),i≤CL pts∧v=.int .i64 i∧xs.length=CL pts∧xs.take i=List.replicate i (-1,0) ∧
  St S (.box bk [vf] 204::.sl vf 4 1 (CL pts) (cF Fb (List.replicate (CL pts) false))::.box _ [vo] 28::.sl vo 57 2 (CL pts) (cF Bi xs)::.box bx [vi,vn,.int .i64 root,.int .i64 pts] 87::M) wr) (fun v _=>CL pts - (intOf v).toNat)
 case atStart=>exact ⟨0,_,Nat.zero_le _,rfl,by simp,rfl,V⟩
 case round =>
  clear V;obtain ⟨i,xs,hi',rfl,hxl,hxt,V⟩:=hrel;by_cases hlt:i < CL pts
  ·repeat' (first|(apply O ();go_step)|fail)
   refine L5 4 V kr kr ?_;simp only [List.take_succ_cons,List.take_zero,List.drop_succ_cons,List.drop_zero]
   repeat (((first|(with_reducible refine Sl.kq_load ?_;(refine CJ (AT rfl _ N.h Y rfl rfl) ?_))|(with_reducible refine Sl.kq_index ?_;(((refine Ju (Ao V X SlIn.h rfl Y Y Af Af) ?_);rintro v L;(try simp only [Int.toNat_natCast,Int.toNat_natCast_add_one,Int.reduceToNat] at L))))|(with_reducible refine Sl.kq_call ?_;((refine JQ (fun w V=>FT w V) Y rfl ?_)))|(refine Sl.kq_plain rfl ?_;(refine CJ (by exact Dn X) ?_)))<;>apply nW ()))
   refine G5 ?_;clear V;intro w V;repeat' (first|(apply tS ();refine Z5 V X Ak SlIn.h Y X Af ?_;clear V;intro w V<;>apply nW ()<;>(try replace V:=nH V))|(apply O ();go_step)|fail)
   go_roundw
   case rel =>
    refine ⟨i+1,xs.set i (-1,0),by omega,by go_num,by simp [hxl],?_,V⟩;rw [List.take_add_one,List.getElem?_set_self (by omega),List.take_set_of_le (Nat.le_refl _),hxt,List.replicate_succ'];rfl
   case measure=>simp [intOf];omega
  ·have hxs:xs=List.replicate (CL pts) (-1,0):=by
    rw [show i=CL pts by omega,List.take_of_length_le (by omega)] at hxt;exact hxt
   repeat' (first|(apply O ();go_step)|apply sX ()|fail)
   refine JI (n:=nodes.length) V (by infer_instance) (by infer_instance) X X (by omega) (by omega) ?_;clear V;intro vv w V;have hvv:=AY V;have V:=(show St S (.sl vv 4 1 nodes.length (List.replicate nodes.length (Fb false)).flatten::_) _ from V)
   rw [KT,hxs] at V;clear hxs hxt hxl;refine nX ?_;repeat' (first|(apply tS ();(first|refine Ax V rfl _ N.h Y X rfl A3 A2 (by simp) ?_|refine G2 V rfl N.h X Ak Y (by simp) ?_);clear V;intro w V<;>apply nW ()<;>(try replace V:=nH V))|(apply O ();go_step)|(apply sA ();clear V;intro bk w V)|fail)
   refine L5 4 V kr kr ?_;simp only [List.take_succ_cons,List.take_zero,List.drop_succ_cons,List.drop_zero]
   repeat (((first|(with_reducible refine Sl.kq_load ?_;(refine CJ (AT rfl _ N.h Y rfl rfl) ?_))|(with_reducible refine Sl.kq_field ?_;(refine CJ (Et rfl Y) ?_))|(with_reducible refine Sl.kq_call ?_;((refine JQ (fun w V=>FT w V) Y rfl ?_))))<;>apply nW ()))
   refine G5 ?_;clear V;intro w V;have c:=RG _ _ _ _ _ vi vn vv vo vf root pts (CL pts) nodes hn hnn hnp (nodes.length+1) M root (-1) 0 ⟨List.replicate nodes.length false,List.replicate (CL pts) (-1,0),List.replicate (CL pts) false⟩ _ hr (by unfold Au;omega) (by unfold Au;omega) ⟨by simp,by simp,by simp⟩ (by simp [left]) (V.perm (iK _ _ _ _ _ _ _ _ M));refine Eh c rfl (by infer_instance) rfl rfl ?_;clear V c;rintro v w ⟨rfl,V⟩;unfold mv at V;refine nX ?_;repeat' (first|(apply O ();go_step)|apply sX ()|fail)
   go_ret;have hmv:=V.move (k:=6) rfl;have hlen:(BM nodes root pts).length=CL pts:=(J3 (nodes:=nodes) (np:=CL pts) (nodes.length+1) root (-1,0) _ ⟨by simp,by simp,by simp⟩).out
   have hgood:UH _:=MS (YY hn) (nodes.length+1) root (-1,0) ⟨List.replicate nodes.length false,List.replicate (CL pts) (-1,0),List.replicate (CL pts) false⟩ ⟨by unfold Au;omega,by unfold Au;omega⟩ (fun p L=>by
    rw [List.eq_of_mem_replicate L];exact ⟨by unfold Au;omega,by unfold Au;omega⟩)
   obtain ⟨S',hle,hst',hS⟩:=St.freeze (α:=Int×Int) hmv (Yt hgood) hlen.symm;refine ⟨_,rfl,S',hle,hS,?_⟩;exact hst'.drop.drop.drop.drop.drop.drop.drop
end Go.Proofs.YtmmbidoldegemaaGreatDoor
