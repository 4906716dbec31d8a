/- Part 21 of the proof that the law of the last part holds; no conditions. -/
import Derived.Test.YtmmbidoldegemaaGreatDoorZ03
set_option linter.unusedSimpArgs false
set_option linter.unusedVariables false
set_option maxRecDepth 8000
set_option maxHeartbeats 8000000
namespace Go.Proofs.YtmmbidoldegemaaGreatDoor
open Go.RowKit Go.Sl
set_option maxRecDepth 20000 in
theorem Fr {S M} (w:World) (hst:St S M w) :
  Ad Tryz.prog 129 [] w fun v w'=>v=.agg #[.int .i64 (-1),.int .i64 0]∧St S M w':=by
 unfold Ad;go_enter Tryz.func129,Tryz.ntmps129;repeat' (first|(apply gK ();go_step)|(apply sS ();clear hst;intro w hst)|(apply sA ();clear hst;intro bk w hst)|fail)
 refine Ca (fn:=Tryz.f129) rfl hst rfl 0 rfl (by infer_instance) rfl (by rfl) ?_;exact ⟨_,rfl,rfl,hst.drop⟩
set_option maxRecDepth 20000 in
theorem Xl {S M} (w:World) (hst:St S M w) (v1 v2:Value) (root pts:Int) (hp:Au pts) :
  Ad Tryz.prog 128 [.agg #[v1,v2,.int .i64 root,.int .i64 pts]] w fun v w'=>v=.int .i64 (min (max pts 0) 8)∧St S M w':=by
 unfold Ad;go_enter Tryz.func128,Tryz.ntmps128;repeat' (first|(apply gK ();go_step)|(with_reducible refine kC ?_;refine Ag hst (by first|exact EK rfl rfl|exact UI rfl rfl) ?_<;>(try refine nX ?_))|apply sX ()|(apply sB ();clear hst;intro bx w hst)|fail)
 go_ret;exact ⟨_,rfl,rfl,hst.drop⟩
instance lm:Key Tryz.prog 3 Int 1:=Nm kr
instance ll:Key Tryz.prog 57 (Int×Int) 2:=Pm inferInstance kr kr (by decide)
instance lz:EqTy Tryz.prog 57:=⟨by kernel_rfl,by kernel_rfl,by kernel_rfl⟩
def G4 (q s:Int) (took:List Int):Bool :=
 if q = -1∧s=0 then false else took.getD q.toNat 0 != -1 && (bits .and .i64 (took.getD q.toNat 0) s == 0)
def Iz (p:Int→Bool) (xs:List Int):Int:=match xs.findIdx? p with|some i=>i|none=>-1
theorem SN {p:Int→Bool} {xs:List Int} {k:Nat} (hk:k < xs.length) (hn:∀ j (h:j < xs.length),j < k→p xs[j]=false) (hp:p xs[k]=true):Iz p xs=k:=by
 have:xs.findIdx? p=some k:=by
  rw [List.findIdx?_eq_some_iff_getElem];exact ⟨hk,hp,fun j hj=>by simp [hn j (by omega) hj]⟩
 simp [Iz,this]
theorem SO {p:Int→Bool} {xs:List Int} (hn:∀ j (h:j < xs.length),p xs[j]=false):Iz p xs = -1:=by
 have:xs.findIdx? p=none:=by
  rw [List.findIdx?_eq_none_iff];intro x hx;obtain ⟨j,hj,rfl⟩:=List.mem_iff_getElem.1 hx;simp [hn j hj]
 simp [Iz,this]
set_option maxRecDepth 20000 in
theorem Qq {S M} (w:World) (hst:St S M w) (vs:Value) (xs:List Int) (hxs:RSl S vs xs) (hm:xs.length≤9223372036854775807) (g:FuncId) (hg:Body Tryz.prog g) (ca:List Value) (p:Int→Bool)
  (hp:∀ x w,Au x→St S M w→Ad Tryz.prog g (.int .i64 x::ca) w fun v w'=>v=.bool (p x)∧St S M w') :
  Ad Tryz.prog 53 [vs,.func (.func g) #[] ca.toArray] w fun v w'=>v=.int .i64 (Iz p xs)∧St S M w':=by
 unfold Ad;have Hp:=Lib.hid hp;clear hp;go_enter Tryz.func53,Tryz.ntmps53;repeat' (first|(apply gK ();go_step)|apply sX ()|fail)
 go_loopw [8] (fun v wr=>∃ k:Nat,k≤xs.length∧v=.int .i64 k∧(∀ j (h:j < xs.length),j < k→p xs[j]=false)∧St S M wr) (fun v _=>xs.length - (intOf v).toNat)
 case atStart=>exact ⟨0,Nat.zero_le _,rfl,fun j _ h=>by omega,hst⟩
 case round =>
  clear hst;obtain ⟨k,hk,rfl,hn,hst⟩:=hrel;have Hn:=Lib.hid hn;clear hn;by_cases hlt:k < xs.length
  ·repeat' (first|(apply gK ();go_step)|(with_reducible refine kC ?_;refine DU (Hp.out _ _ (by assumption) hst) rfl Aa rfl rfl ?_;clear hst;rintro v w ⟨rfl,hst⟩<;>(try refine nX ?_)<;>(try replace hst:=nH hst))|(apply sN ();intro hI)|(apply sI ();intro v hp)|fail)
   ·rename_i ht;go_ret;exact ⟨_,rfl,by rw [SN hlt Hn.out ht];rfl,hst⟩
   ·rename_i hf;go_roundw
    case rel=>exact ⟨k+1,by omega,by go_num,fun j hj h=>(by rcases Nat.lt_succ_iff_lt_or_eq.1 h with h|rfl;exact Hn.out j hj h;exact hf),hst⟩
    case measure=>simp [intOf];omega
  ·repeat' (first|(apply gK ();go_step)|fail)
   go_ret;exact ⟨_,rfl,by rw [SO (fun j hj=>Hn.out j hj (by omega))];rfl,hst⟩
set_option maxRecDepth 20000 in
theorem Gn {S M} (w:World) (hst:St S M w) (vs:Value) (xs:List Int) (hxs:RSl S vs xs) (hm:xs.length≤9223372036854775807) (g:FuncId) (hg:Body Tryz.prog g) (ca:List Value) (p:Int→Bool)
  (hp:∀ x w,Au x→St S M w→Ad Tryz.prog g (.int .i64 x::ca) w fun v w'=>v=.bool (p x)∧St S M w') :
  Ad Tryz.prog 25 [vs,.func (.func g) #[] ca.toArray] w fun v w'=>v=.bool (xs.any p)∧St S M w':=by
 unfold Ad;have Hp:=Lib.hid hp;clear hp;go_enter Tryz.func25,Tryz.ntmps25;repeat' (first|(apply gK ();go_step)|(apply kc ();refine sc (Qq w hst _ xs hxs hm g hg ca p Hp.out) ?_;clear hst;rintro v w ⟨rfl,hst⟩)|fail)
 go_ret;refine ⟨_,rfl,?_,hst⟩;show Value.bool (decide (Iz p xs≥0))=_
 congr 1
 by_cases h:xs.any p=true
 ·obtain ⟨x,hx,hpx⟩:=List.any_eq_true.1 h;rw [h,decide_eq_true]
  cases hf:xs.findIdx? p with
  | none=>rw [List.findIdx?_eq_none_iff] at hf;have:=hf x hx;simp [hpx] at this
  | some i=>simp [Iz,hf]
 ·rw [show xs.any p=false from by simpa using h,decide_eq_false]
  have hf:xs.findIdx? p=none:=by
   rw [List.findIdx?_eq_none_iff];intro x hx
   cases hpx:p x with
   | false=>rfl
   | true=>exact (h (List.any_eq_true.2 ⟨x,hx,hpx⟩)).elim
  simp [Iz,hf]
set_option maxRecDepth 20000 in
theorem Wj {S M} (w:World) (hst:St S M w) (b k:Nat) (x least:Int) (hk:M[k]? = some (.box b [.int .i64 least] 3)) :
  Ad Tryz.prog 131 [.int .i64 x,.pointer (some ⟨b,0,none⟩)] w fun v w'=>v=.bool (decide (x < least) || decide (x > 3))∧St S M w':=by
 unfold Ad;go_enter Tryz.func131,Tryz.ntmps131;repeat' (first|go_skip|apply sG ()|(with_reducible refine Sl.k_guard ?_;refine Sl.guard_cases rfl ?_ ?_<;>intro hg<;>(simp only [hg,Bool.not_true,Bool.not_false])<;>(try refine nX ?_))|(apply gK ();go_step)|(with_reducible refine kL ?_;refine Ag hst (by exact AM rfl _ Ak Aa rfl rfl) ?_<;>(try refine nX ?_))|fail)
 ·go_ret;exact ⟨_,rfl,by rw [hg,Bool.false_or];rfl,hst⟩
 ·go_ret;exact ⟨_,rfl,by rw [hg];rfl,hst⟩
def FQ (took:List Int) (n least:Int):Bool:=decide ((took.length:Int)=n) && !took.any fun x=>decide (x < least) || decide (x > 3)
set_option maxRecDepth 20000 in
theorem QC {S M} (w:World) (hst:St S M w) (vs:Value) (took:List Int) (hxs:RSl S vs took) (hm:took.length≤9223372036854775807) (n least:Int) :
  Ad Tryz.prog 87 [vs,.int .i64 n,.int .i64 least] w fun v w'=>v=.bool (FQ took n least)∧St S M w':=by
 unfold Ad;go_enter Tryz.func87,Tryz.ntmps87;repeat' (first|go_skip|apply sG ()|(with_reducible refine Sl.k_guard ?_;refine Sl.guard_cases rfl ?_ ?_<;>intro hg<;>(simp only [hg,Bool.not_true,Bool.not_false])<;>(try refine nX ?_))|(apply gK ();go_step)|(apply kc ();refine sc (Gn _ hst _ took hxs hm 131 (by infer_instance) [_] _ (fun x w hx hst=>Wj w hst _ 0 x least rfl)) ?_;clear hst;rintro v w ⟨rfl,hst⟩)|apply sX ()|(apply sB ();clear hst;intro bx w hst)|fail)
 ·rename_i hg;go_ret;refine ⟨_,rfl,?_,hst.drop⟩;rw [FQ,decide_eq_true (by simpa using hg)];rfl
 ·rename_i hg;go_ret;refine ⟨_,rfl,?_,hst.drop⟩;rw [FQ,decide_eq_false (by simpa using hg)];rfl
end Go.Proofs.YtmmbidoldegemaaGreatDoor
