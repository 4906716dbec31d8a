/- Part 23 of the proof that the law of the last part holds; no conditions. -/
import Derived.Lib.SliceRun
import Derived.Deep.LoopGhost
import Derived.Test.YtmmbidoldegemaaGreatDoorZ21
set_option linter.unusedSimpArgs false
set_option linter.unusedVariables false
set_option maxRecDepth 8000
set_option maxHeartbeats 8000000
namespace Go.Proofs.YtmmbidoldegemaaGreatDoor
open Go.RowKit Go.Sl
def Cx (pts:Int):Nat:=(min (max pts 0) 8).toNat
def Bx (nodes:List Ea) (root pts:Int):List (Int×Int) :=
 (DL nodes (nodes.length+1) root (-1,0) ⟨List.replicate nodes.length false,List.replicate (Cx pts) (-1,0),List.replicate (Cx pts) false⟩).out
theorem Xk {S M} (w:World) (hst:St S M w) (v1 v2:Value) (root pts:Int) (hp:Au pts) :
  Ad Tryz.prog 128 [.agg #[v1,v2,.int .i64 root,.int .i64 pts]] w fun v w'=>v=.int .i64 (Cx pts:Nat)∧St S M w' :=
 Ad.mono (Xl w hst v1 v2 root pts hp) fun v w' h=>⟨by rw [h.1];congr 1;simp only [Cx];omega,h.2⟩
theorem J8 {α:Type} (f:α→List Value) (x:α) (n:Nat):(List.replicate n (f x)).flatten=cF f (List.replicate n x):=by simp [cF]
theorem CD {v:Value} (h:v.oneCell'=true):v.cells.toList=[v]:=by
 cases v<;>first|rfl|simp [Value.oneCell'] at h
theorem EV {P:Program} {ops:Array Oper} {rest:List Oper} {Q:Exit→Act→World→Prop} {l:List Value} {D:List Deferred} {w:World} {ty:TypeId} {pos:String} {af:Array Edge} {S:Ac} {M:List Chunk}
  {T B:TypeId} {x y:Operand} {zero c:List Value} {bb b off k:Nat} {v:Value} (hst:St S M w) (hx:Ai l x=.pointer (some ⟨b,off,none⟩)) (hk:M[k]? = some (.box b c B))
  (hy:Ai l y=v) (h1:v.oneCell'=true) (hT:Ty P T false 1 zero bb) (hf:off+1≤c.length)
  (h:∀ w',St S (M.set k (.box b (c.take off++[v]++c.drop (off+1)) B)) w'→wpList P ops Q rest ⟨l.toArray,D⟩ w') :
  wpList P ops Q (⟨none,.store T x y,ty,pos,af,none⟩::rest) ⟨l.toArray,D⟩ w :=
 AB hst hx k hk hT hy (CD h1) rfl (by simp [h1]) hf h
theorem AW {S:Ac} {M:List Chunk} {w:World} {v:Value} {T:TypeId} {z n:Nat} {c:List Value} (h:St S (.sl v T z n c::M) w):v.oneCell'=true:=by
 rcases (h.get (k:=0) rfl).2 with ⟨rfl,_⟩|⟨g,cap,cur,fz,rfl,_⟩<;>rfl
theorem fJ (a b c d e f g h:Chunk) (M:List Chunk):(a::b::c::d::e::f::g::h::M).Perm (h::b::f::d::a::c::g::e::M) :=
 ((show [0,1,2,3,4,5,6,7].Perm [7,1,5,3,0,2,6,4] by decide).map (fun i=>[a,b,c,d,e,f,g,h].getD i a)).append_right M
def Tt (s:D5):Prop:=∀ p∈s.out,Au p.1∧Au p.2
theorem LZ {nodes:List Ea} (hN:∀ nd∈nodes,Au nd.2.1):∀ (f:Nat) (k:Int) (ar:Int×Int) (s:D5),Au ar.1∧Au ar.2→Tt s→Tt (DL nodes f k ar s)
 | 0,_,_,_,_,h=>h
 | f+1,k,ar,s,ha,h=>by
  unfold DL;split
  ·exact h
  ·rename_i nd hg;have hnd:=hN nd (List.mem_of_getElem? (Kr hg).2.2);refine DA (p:=Tt) (fun t i ht=>LZ hN f _ _ t ?_ ht) _ _ ?_
   ·unfold F2;split
    ·exact ⟨hnd,by unfold Au;omega⟩
    ·split
     ·exact ⟨hnd,by unfold Au;omega⟩
     ·exact ha
   ·unfold Proofs.YtmmbidoldegemaaGreatDoor.enter;split
    ·intro p hp;rcases List.mem_or_eq_of_mem_set hp with hp|rfl
     ·exact h p hp
     ·exact ha
    ·exact h
theorem W6 {S:Ac} {xs:List (Int×Int)} (h:∀ p∈xs,Au p.1∧Au p.2):RL S (cF A9 xs) xs:=by
 refine ⟨Fx (f:=A9) (z:=2) (fun _=>rfl) xs,fun i x hx=>?_⟩;obtain ⟨hi,rfl⟩:=List.getElem?_eq_some_iff.1 hx;have:=I8 (f:=A9) (z:=2) (fun _=>rfl) xs i hi;have h':=h _ (List.getElem_mem hi);show Rep.R S (((cF A9 xs).drop (i * 2)).take 2) _;rw [this];exact Ay (x:=xs[i].1) (y:=xs[i].2) ⟨rfl,h'.1⟩ ⟨rfl,h'.2⟩
theorem Xz {S:Ac} {vn:Value} {nodes:List Ea} (hn:RSl S vn nodes):∀ nd∈nodes,Au nd.2.1:=by
 intro nd hnd;obtain ⟨i,hi,rfl⟩:=List.mem_iff_getElem.1 hnd;rcases hn with ⟨ad,cap,_,h,_⟩|⟨b,o,cap,c,T,fz,_,_,_,_,h⟩
 ·subst h;simp at hi
 ·obtain ⟨vs,_,_,_,h2⟩:=Mq (h.at_ i hi);exact h2
set_option maxRecDepth 20000 in
theorem Lo {S M} (w:World) (hst:St S M w) (vi vn:Value) (root pts:Int) (ins:List (By×Int×Int×Int×Unit)) (nodes:List Ea) (hi:RSl S vi ins) (hn:RSl S vn nodes) (hnn:nodes.length≤140737488355328) (hr:Au root) (hp:Au pts) :
  Ad Tryz.prog 86 [.agg #[vi,vn,.int .i64 root,.int .i64 pts]] w fun v w'=>∃ S',S.Le S'∧RSl S' v (Bx nodes root pts)∧St S' M w':=by
 unfold Ad;have h1:=hi.oneCell;have h2:=hn.oneCell;have hnp:Cx pts≤8:=by unfold Cx;omega
 go_enter Tryz.func86,Tryz.ntmps86;repeat' (first|(apply gK ();go_step)|(apply kc ();refine sc (Xk w hst vi vn root pts hp) ?_;clear hst;rintro v w ⟨rfl,hst⟩)|apply sX ()|(apply sB ();clear hst;intro bx w hst)|fail)
 refine IW hst (by infer_instance) (by infer_instance) Ab Ab (by omega) (by omega) ?_;clear hst;intro vo w hst;have hvo:=AW hst;have hst:=(show St S (.sl vo 57 2 (Cx pts) (List.replicate (Cx pts) (A9 (0,0))).flatten::_) _ from hst)
 rw [J8] at hst;refine nX ?_;repeat' (first|(with_reducible refine kS ?_;refine EV hst rfl BoxIn.h Ab Ak Aa (by simp) ?_;clear hst;intro w hst<;>(try refine nX ?_)<;>(try replace hst:=nH hst))|(apply gK ();go_step)|apply sX ()|(apply sA ();clear hst;intro bk w hst)|fail)
 refine IW (n:=Cx pts) hst (by infer_instance) (by infer_instance) Ab Ab (by omega) (by omega) ?_;clear hst;intro vf w hst;have hvf:=AW hst;have hst:=(show St S (.sl vf 4 1 (Cx pts) (List.replicate (Cx pts) (EH false)).flatten::_) _ from hst)
 rw [J8] at hst;refine nX ?_;repeat' (first|(with_reducible refine kS ?_;refine EV hst rfl BoxIn.h Ab Ak Aa (by simp) ?_;clear hst;intro w hst<;>(try refine nX ?_)<;>(try replace hst:=nH hst))|(apply gK ();go_step)|apply sX ()|(apply sA ();clear hst;intro bk w hst)|fail)
 go_loopw [16] (fun v wr=>∃ (i:Nat) (xs:List (Int×Int)),i≤Cx pts∧v=.int .i64 i∧xs.length=Cx pts∧xs.take i=List.replicate i (-1,0) ∧
  St S (.box bk [vf] 204::.sl vf 4 1 (Cx pts) (cF EH (List.replicate (Cx pts) false))::.box _ [vo] 28::.sl vo 57 2 (Cx pts) (cF A9 xs)::.box bx [vi,vn,.int .i64 root,.int .i64 pts] 87::M) wr) (fun v _=>Cx pts - (intOf v).toNat)
 case atStart=>exact ⟨0,_,Nat.zero_le _,rfl,by simp,rfl,hst⟩
 case round =>
  clear hst;obtain ⟨i,xs,hi',rfl,hxl,hxt,hst⟩:=hrel;by_cases hlt:i < Cx pts
  ·repeat' (first|(apply gK ();go_step)|fail)
   refine La 4 hst kr kr ?_;simp only [List.take_succ_cons,List.take_zero,List.drop_succ_cons,List.drop_zero]
   repeat (((first|(with_reducible refine Sl.kq_load ?_;(refine Cw (AM rfl _ BoxIn.h Aa rfl rfl) ?_))|(with_reducible refine Sl.kq_index ?_;(((refine IM (Aq hst Ab SlIn.h rfl Aa Aa Af Af) ?_);rintro v hp;(try simp only [Int.toNat_natCast,Int.toNat_natCast_add_one,Int.reduceToNat] at hp))))|(with_reducible refine Sl.kq_call ?_;((refine I3 (fun w hst=>Fr w hst) Aa rfl ?_)))|(refine Sl.kq_plain rfl ?_;(refine Cw (by exact C4 Ab) ?_)))<;>(try refine nX ?_)))
   refine Gv ?_;clear hst;intro w hst;repeat' (first|(with_reducible refine kS ?_;refine YK hst Ab Ak SlIn.h Aa Ab Af ?_;clear hst;intro w hst<;>(try refine nX ?_)<;>(try replace hst:=nH hst))|(apply gK ();go_step)|fail)
   go_roundw
   case rel =>
    refine ⟨i+1,xs.set i (-1,0),by omega,by go_num,by simp [hxl],?_,hst⟩;rw [List.take_add_one,List.getElem?_set_self (by omega),List.take_set_of_le (Nat.le_refl _),hxt,List.replicate_succ'];rfl
   case measure=>simp [intOf];omega
  ·have hxs:xs=List.replicate (Cx pts) (-1,0):=by
    rw [show i=Cx pts by omega,List.take_of_length_le (by omega)] at hxt;exact hxt
   repeat' (first|(apply gK ();go_step)|apply sX ()|fail)
   refine IW (n:=nodes.length) hst (by infer_instance) (by infer_instance) Ab Ab (by omega) (by omega) ?_;clear hst;intro vv w hst;have hvv:=AW hst;have hst:=(show St S (.sl vv 4 1 nodes.length (List.replicate nodes.length (EH false)).flatten::_) _ from hst)
   rw [J8,hxs] at hst;clear hxs hxt hxl;refine nX ?_;repeat' (first|(with_reducible refine kS ?_;(first|refine AB hst rfl _ BoxIn.h Aa Ab rfl A6 A5 (by simp) ?_|refine EV hst rfl BoxIn.h Ab Ak Aa (by simp) ?_);clear hst;intro w hst<;>(try refine nX ?_)<;>(try replace hst:=nH hst))|(apply gK ();go_step)|(apply sA ();clear hst;intro bk w hst)|fail)
   refine La 4 hst kr kr ?_;simp only [List.take_succ_cons,List.take_zero,List.drop_succ_cons,List.drop_zero]
   repeat (((first|(with_reducible refine Sl.kq_load ?_;(refine Cw (AM rfl _ BoxIn.h Aa rfl rfl) ?_))|(with_reducible refine Sl.kq_field ?_;(refine Cw (Fa rfl Aa) ?_))|(with_reducible refine Sl.kq_call ?_;((refine I3 (fun w hst=>Fr w hst) Aa rfl ?_))))<;>(try refine nX ?_)))
   refine Gv ?_;clear hst;intro w hst;have c:=Qz _ _ _ _ _ vi vn vv vo vf root pts (Cx pts) nodes hn hnn hnp (nodes.length+1) M root (-1) 0 ⟨List.replicate nodes.length false,List.replicate (Cx pts) (-1,0),List.replicate (Cx pts) false⟩ _ hr (by unfold Au;omega) (by unfold Au;omega) ⟨by simp,by simp,by simp⟩ (by simp [left]) (hst.perm (fJ _ _ _ _ _ _ _ _ M));refine DU c rfl (by infer_instance) rfl rfl ?_;clear hst c;rintro v w ⟨rfl,hst⟩;unfold mv at hst;refine nX ?_;repeat' (first|(apply gK ();go_step)|apply sX ()|fail)
   go_ret;have hmv:=hst.move (k:=6) rfl;have hlen:(Bx nodes root pts).length=Cx pts:=(Jf (nodes:=nodes) (np:=Cx pts) (nodes.length+1) root (-1,0) _ ⟨by simp,by simp,by simp⟩).out
   have hgood:Tt _:=LZ (Xz hn) (nodes.length+1) root (-1,0) ⟨List.replicate nodes.length false,List.replicate (Cx pts) (-1,0),List.replicate (Cx pts) false⟩ ⟨by unfold Au;omega,by unfold Au;omega⟩ (fun p hp=>by
    rw [List.eq_of_mem_replicate hp];exact ⟨by unfold Au;omega,by unfold Au;omega⟩)
   obtain ⟨S',hle,hst',hS⟩:=St.freeze (α:=Int×Int) hmv (W6 hgood) hlen.symm;refine ⟨_,rfl,S',hle,hS,?_⟩;exact hst'.drop.drop.drop.drop.drop.drop.drop
def NA (np:Nat) (p:Int×Int):Prop:=p=(-1,0)∨(0≤p.1∧p.1 < np∧(p.2=1∨p.2=2))
theorem K2 {nodes:List Ea} {np:Nat}:∀ (f:Nat) (k:Int) (ar:Int×Int) (s:D5),NA np ar→s.out.length=np∧(∀ p∈s.out,NA np p) →
  (DL nodes f k ar s).out.length=np∧∀ p∈(DL nodes f k ar s).out,NA np p
 | 0,_,_,_,_,h=>h
 | f+1,k,ar,s,ha,h=>by
  unfold DL;split
  ·exact h
  ·rename_i nd hg;refine DA (p:=fun s:D5=>s.out.length=np∧∀ p∈s.out,NA np p) (fun t i ht=>K2 f _ _ t ?_ ht) _ _ ?_
   ·have hp:B8 nd s=true→0≤nd.2.1∧nd.2.1 < np:=fun e=>by
     simp only [B8,Bool.and_eq_true,decide_eq_true_eq,h.1] at e;exact ⟨e.2.1,e.2.2.1⟩
    unfold F2;split
    ·rename_i c;exact .inr ⟨(hp c.1).1,(hp c.1).2,.inr rfl⟩
    ·split
     ·rename_i c;exact .inr ⟨(hp c.1).1,(hp c.1).2,.inl rfl⟩
     ·exact ha
   ·unfold Proofs.YtmmbidoldegemaaGreatDoor.enter;split
    ·refine ⟨by simpa using h.1,fun p hp=>?_⟩;rcases List.mem_or_eq_of_mem_set hp with hp|rfl
     ·exact h.2 p hp
     ·exact ha
    ·exact h
theorem SY (nodes:List Ea) (root pts:Int):(Bx nodes root pts).length=Cx pts∧∀ p∈Bx nodes root pts,NA (Cx pts) p :=
 K2 (nodes.length+1) root (-1,0) _ (.inl rfl) ⟨by simp,fun p hp=>.inl (List.eq_of_mem_replicate hp)⟩
theorem Ad.eq {P:Program} {f:FuncId} {args:List Value} {w:World} {S:Ac} {M:List Chunk} {b c:Bool} (h:Ad P f args w fun v w'=>v=.bool b∧St S M w') (e:b=c) :
  Ad P f args w fun v w'=>v=.bool c∧St S M w':=e▸h
theorem Ka {P:Program} {T E T2:TypeId} {l:List Value} {x y:Operand} {S:Ac} {M:List Chunk} {a:Option Addr} {n c n' c':Nat} (hx:Ai l x=.slice a n c) (hy:Ai l y=.slice none n' c') (hT:SlT P T E) :
  Qt P l (.binOp .eql T x y T2) S M (.bool a.isNone):=fun dst ty pos af w hst=>by
 apply eW ()
theorem Zy {S:Ac} {c:List Value} {xs:List Int} (h:RL S c xs):c=cF Bf xs:=by
 have hl:c.length=xs.length:=by simpa using (show c.length=xs.length * 1 from h.1)
 refine List.ext_getElem (by rw [hl,Fx (f:=Bf) (z:=1) (fun _=>rfl)];simp) fun i h1 h2=>?_
 have hi:i < xs.length:=by omega
 obtain ⟨e,_⟩:=h.2 i _ (List.getElem?_eq_getElem hi);have e:(c.drop (i * 1)).take 1=[.int .i64 xs[i]]:=e;have e':((cF Bf xs).drop (i * 1)).take 1=[.int .i64 xs[i]]:=I8 (f:=Bf) (z:=1) (fun _=>rfl) xs i hi;have a1:=congrArg (·[0]?) e;have a2:=congrArg (·[0]?) e';simp at a1 a2;rw [List.getElem?_eq_getElem h1] at a1;rw [List.getElem?_eq_getElem h2] at a2;exact (Option.some.inj a1).trans (Option.some.inj a2).symm
set_option maxRecDepth 20000 in
theorem Yp {S M} (w:World) (hst:St S M w) (v:Value) (xs:List Int) (hv:RSl S v xs) (hm:xs.length≤1048576) :
  Ad Tryz.prog 88 [v] w fun u w'=>St S (.sl u 3 1 xs.length (cF Bf xs)::M) w':=by
 unfold Ad;have hv':=hv;rcases hv with ⟨ad,cap,rfl,rfl,_⟩|⟨b,o,cap,c,T,fz,rfl,_,_,_,_⟩
 ·cases ad with
  | none =>
   go_enter Tryz.func88,Tryz.ntmps88;repeat' (first|(with_reducible refine kB ?_;refine Ag hst (Ka rfl rfl (by infer_instance)) ?_;simp only [Option.isNone_none,Option.isNone_some];(try refine nX ?_))|(apply gK ();go_step)|fail)
   go_ret;exact ⟨_,rfl,hst.nil 3 1⟩
  | some a =>
   go_enter Tryz.func88,Tryz.ntmps88;repeat' (first|(with_reducible refine kB ?_;refine Ag hst (Ka rfl rfl (by infer_instance)) ?_;simp only [Option.isNone_none,Option.isNone_some];(try refine nX ?_))|(apply gK ();go_step)|fail)
   apply YU ()
 ·go_enter Tryz.func88,Tryz.ntmps88;repeat' (first|(with_reducible refine kB ?_;refine Ag hst (Ka rfl rfl (by infer_instance)) ?_;simp only [Option.isNone_none,Option.isNone_some];(try refine nX ?_))|(apply gK ();go_step)|fail)
  apply YU ()
set_option maxRecDepth 20000 in
theorem G3 {S M} (w:World) (q s:Int) (hq:Au q) (hs:Au s) (vt:Value) (took:List Int) (hst:St S (.sl vt 3 1 took.length (cF Bf took)::M) w) (h:(q = -1∧s=0)∨(0≤q∧q.toNat < took.length)) :
  Ad Tryz.prog 89 [.agg #[.int .i64 q,.int .i64 s],vt] w fun v w'=>v=.bool (G4 q s took)∧St S (.sl vt 3 1 took.length (cF Bf took)::M) w':=by
 unfold Ad;have h1:Au (-1):=by unfold Au;omega
 have h0:Au 0:=by unfold Au;omega
 by_cases he:((q,s)=((-1:Int),(0:Int)))
 ·obtain ⟨rfl,rfl⟩:q = -1∧s=0:=by simpa using he
  go_enter Tryz.func89,Tryz.ntmps89;repeat' (first|(apply gK ();go_step)|(apply sB ();clear hst;intro bx w hst)|fail)
  refine E6 hst kr kr ?_
  repeat (((first|(with_reducible refine Sl.kq_load ?_;(refine Cw (AM rfl _ BoxIn.h Aa rfl rfl) ?_))|(with_reducible refine Sl.kq_call ?_;((refine I3 (fun w hst=>Fr w hst) Aa rfl ?_)))|(refine Sl.kq_plain rfl ?_;((refine Cw (I2 rfl rfl (CW hq hs) (CW h1 h0) Aa Aa Aa) ?_))))<;>(try refine nX ?_)))
  refine Gv ?_;clear hst;intro w hst;repeat' (first|(apply gK ();go_step)|fail)
  go_ret;exact ⟨_,rfl,rfl,hst.drop⟩
 ·have he':decide ((q,s)=((-1:Int),(0:Int)))=false:=decide_eq_false he;obtain ⟨hq0,hql⟩:0≤q∧q.toNat < took.length:=h.resolve_left (by rintro ⟨rfl,rfl⟩;exact he rfl)
  have hsh:G4 q s took=(took[q.toNat] != -1 && (bits .and .i64 took[q.toNat] s == 0)):=by
   unfold G4;rw [if_neg (by rintro ⟨rfl,rfl⟩;exact he rfl)];simp [List.getD,List.getElem?_eq_getElem hql]
  have Hsh:=Lib.hid hsh;clear hsh;by_cases hb:(took[q.toNat] != -1)=true
  ·have Hb:=Lib.hid hb;go_enter Tryz.func89,Tryz.ntmps89;repeat' (first|(apply gK ();go_step)|(apply sB ();clear hst;intro bx w hst)|fail)
   refine E6 hst kr kr ?_
   repeat (((first|(with_reducible refine Sl.kq_load ?_;(refine Cw (AM rfl _ BoxIn.h Aa rfl rfl) ?_))|(with_reducible refine Sl.kq_call ?_;((refine I3 (fun w hst=>Fr w hst) Aa rfl ?_)))|(refine Sl.kq_plain rfl ?_;((refine Cw (I2 rfl rfl (CW hq hs) (CW h1 h0) Aa Aa Aa) ?_))))<;>(try refine nX ?_)))
   refine Gv ?_;clear hst;intro w hst;repeat' (first|(with_reducible refine kI ?_;refine Ag hst (AZ rfl rfl Aa Aa Af Af) ?_<;>(try refine nX ?_))|(with_reducible refine kI ?_;refine An hst (Aq hst Ab SlIn.h rfl Aa Aa Af Af) ?_;rintro v hp;(try simp only [Int.toNat_natCast,Int.toNat_natCast_add_one,Int.reduceToNat] at hp)<;>(try refine nX ?_))|apply sG ()|(apply gK ();go_step)|(with_reducible refine kL ?_;refine Ag hst (by exact J9 Ab Ak SlIn.h Aa Af) ?_<;>(try refine nX ?_))|apply sX ()|fail)
   go_ret;exact ⟨_,rfl,by rw [Hsh.out,Hb.out];rfl,hst.drop⟩
  ·have hb':(took[q.toNat] != -1)=false:=by simpa using hb
   have Hb:=Lib.hid hb';clear hb;go_enter Tryz.func89,Tryz.ntmps89;repeat' (first|(apply gK ();go_step)|(apply sB ();clear hst;intro bx w hst)|fail)
   refine E6 hst kr kr ?_
   repeat (((first|(with_reducible refine Sl.kq_load ?_;(refine Cw (AM rfl _ BoxIn.h Aa rfl rfl) ?_))|(with_reducible refine Sl.kq_call ?_;((refine I3 (fun w hst=>Fr w hst) Aa rfl ?_)))|(refine Sl.kq_plain rfl ?_;((refine Cw (I2 rfl rfl (CW hq hs) (CW h1 h0) Aa Aa Aa) ?_))))<;>(try refine nX ?_)))
   refine Gv ?_;clear hst;intro w hst;repeat' (first|go_skip|(with_reducible refine kI ?_;refine Ag hst (AZ rfl rfl Aa Aa Af Af) ?_<;>(try refine nX ?_))|(with_reducible refine kI ?_;refine An hst (Aq hst Ab SlIn.h rfl Aa Aa Af Af) ?_;rintro v hp;(try simp only [Int.toNat_natCast,Int.toNat_natCast_add_one,Int.reduceToNat] at hp)<;>(try refine nX ?_))|(apply gK ();go_step)|(with_reducible refine kL ?_;refine Ag hst (by exact J9 Ab Ak SlIn.h Aa Af) ?_<;>(try refine nX ?_))|apply sX ()|fail)
   go_ret;exact ⟨_,rfl,by rw [Hsh.out,Hb.out];rfl,hst.drop⟩
def GI (en:List (Int×Int)) (o:List Int) (i:Nat):Bool:=G4 (en.getD i (-1,0)).1 (en.getD i (-1,0)).2 o
def F1 (en:List (Int×Int)) (t:List Int×Bool) (i:Nat):List Int×Bool:=if t.1.getD i 0 == -1 && GI en t.1 i then (t.1.set i 0,true) else t
def looks (en:List (Int×Int)) (o:List Int) (n:Nat):List Int×Bool:=(List.range n).foldl (F1 en) (o,false)
def CM (en:List (Int×Int)):Nat→List Int→List Int
 | 0,o=>o
 | f+1,o=>if (looks en o o.length).2 then CM en f (looks en o o.length).1 else (looks en o o.length).1
def bad (en:List (Int×Int)) (o:List Int) (i:Nat):Bool:=decide (o.getD i 0 > 0) && GI en o i
def Dv (en:List (Int×Int)) (took:List Int):Option (List Int) :=
 if FQ took en.length (-1) then
  let o:=CM en (took.length+1) took
  if (List.range o.length).any (bad en o) then none else some o
 else none
theorem Ha (en:List (Int×Int)) (o:List Int) (n:Nat):looks en o (n+1)=F1 en (looks en o n) n:=by simp [looks,List.range_succ,List.foldl_append]
theorem Pf (en:List (Int×Int)) (o:List Int) (n:Nat):(looks en o n).1.length=o.length :=
 DA (p:=fun t:List Int×Bool=>t.1.length=o.length) (fun t i h=>by unfold F1;split;simpa using h;exact h) _ _ rfl
theorem Tb {l:List Int} {k:Nat} (h:l.getD k 0 = -1):(l.set k 0).count (-1)+1=l.count (-1):=by
 induction l generalizing k with
 | nil=>simp at h
 | cons b l ih =>
  cases k with
  | zero=>simp at h;subst h;simp
  | succ k =>
        have h:l.getD k 0 = -1:=by simpa using h
        have:=ih h;simp only [List.set_cons_succ,List.count_cons];omega
def Dm (o:List Int):Nat:=o.count (-1)
theorem GA (en:List (Int×Int)) (o:List Int):∀ n,Dm (looks en o n).1+(if (looks en o n).2 then 1 else 0)≤Dm o
 | 0=>by simp [looks]
 | n+1=>by
  have ih:=GA en o n;rw [Ha];unfold F1;split
  ·rename_i h;simp only [Bool.and_eq_true,beq_iff_eq] at h;have:=Tb h.1;simp only [Dm] at *;simp only [if_true];omega
  ·exact ih
def YM (out:List (Int×Int)) (found:List Bool):Nat→Int→Prop
 | 0,m=>m = -1
 | d+1,m=>m = -1∨(0≤m∧m.toNat < out.length∧found.getD m.toNat false=true∧YM out found d (out.getD m.toNat (-1,0)).1)
def lJ (s:D5) (x:Int):Prop:=YM s.out s.found (s.found.count true) x
structure lK (np:Nat) (s:D5):Prop where
 out:s.out.length=np
 found:s.found.length=np
 yes:∀ m < np,s.found.getD m false=true→lJ s m
 no:∀ m < np,s.found.getD m false=false→s.out.getD m (-1,0)=(-1,0)
def MQ (h o:List Int):Prop:=o.length=h.length∧∀ i,h.getD i 0≠-1→o.getD i 0=h.getD i 0
theorem Vl {l:List Int} {i j:Nat}:(l.set i 0).getD j 0=if i=j then 0 else l.getD j 0:=by
 by_cases h:i=j
 ·subst h;simp only [List.getD_eq_getElem?_getD,List.getElem?_set,if_true];split<;>rfl
 ·simp [List.getD_eq_getElem?_getD,List.getElem?_set_ne h,h]
theorem SC {en:List (Int×Int)} {h:List Int} {x:List Int×Bool} (hk:MQ h x.1) (i:Nat):MQ h (F1 en x i).1:=by
 unfold F1;split
 ·rename_i hc;simp only [Bool.and_eq_true,beq_iff_eq] at hc;refine ⟨by simpa using hk.1,fun j hj=>?_⟩;simp only [Vl];split
  ·rename_i hij;subst hij;exact absurd (hk.2 i hj▸hc.1) hj
  ·exact hk.2 j hj
 ·exact hk
theorem Mt {en:List (Int×Int)} {p:List Int→Prop} (hp:∀ x i,p x.1→p (F1 en x i).1) {o:List Int} (h:p o) (n:Nat):p (looks en o n).1 :=
 DA (p:=fun t:List Int×Bool=>p t.1) (fun t i ht=>hp t i ht) _ _ h
theorem IK {en:List (Int×Int)} {p:List Int→Prop} (hp:∀ x i,p x.1→p (F1 en x i).1):∀ (f:Nat) {o:List Int},p o→p (CM en f o)
 | 0,_,h=>h
 | f+1,o,h=>by
  unfold CM;split
  ·exact IK hp f (Mt hp h _)
  ·exact Mt hp h _
theorem Li {en:List (Int×Int)} {o:List Int}:∀ {n:Nat},(looks en o n).2=false→(looks en o n).1=o∧∀ i < n,¬ (o.getD i 0 = -1∧GI en o i=true)
 | 0,_=>⟨rfl,fun i hi=>by omega⟩
 | n+1,h=>by
  rw [Ha] at h ⊢;unfold F1 at h ⊢;split at h
  ·cases h
  ·rename_i hc;obtain ⟨h1,h2⟩:=Li h;rw [if_neg hc];refine ⟨h1,fun i hi=>?_⟩;rcases Nat.lt_succ_iff_lt_or_eq.1 hi with hi|rfl
   ·exact h2 i hi
   ·rw [h1] at hc
    simpa using hc
def RK (en:List (Int×Int)) (o:List Int):Prop:=(looks en o o.length).2=false
theorem IV {en:List (Int×Int)}:∀ (f:Nat) (o:List Int),Dm o < f→RK en (CM en f o)
 | 0,_,h=>by omega
 | f+1,o,h=>by
  unfold CM;have hc:=GA en o o.length;split
  ·rename_i hb;rw [hb] at hc;simp only [if_true] at hc;exact IV f _ (by omega)
  ·rename_i hb;have hb':(looks en o o.length).2=false:=by simpa using hb
   rw [(Li hb').1];exact hb'
theorem NE {took:List Int} {n:Nat} {least:Int}:FQ took n least=true↔took.length=n∧∀ x∈took,least≤x∧x≤3:=by
 simp only [FQ,Bool.and_eq_true,decide_eq_true_eq,Bool.not_eq_true',List.any_eq_false,Bool.or_eq_true];constructor
 ·rintro ⟨h,h2⟩;exact ⟨by omega,fun x hx=>by have:=h2 x hx;omega⟩
 ·rintro ⟨h,h2⟩;exact ⟨by omega,fun x hx=>by have:=h2 x hx;omega⟩
theorem K3 (o:List Int):Dm o < o.length+1:=by
 have:=List.count_le_length (a:=(-1:Int)) (l:=o);unfold Dm;omega
theorem SL {en:List (Int×Int)} {h o:List Int}:Dv en h=some o↔(h.length=en.length∧∀ x∈h,-1≤x∧x≤3)∧o=CM en (h.length+1) h∧∀ i < o.length,¬ (o.getD i 0 > 0∧GI en o i=true):=by
 unfold Dv;by_cases hv:FQ h en.length (-1)=true
 ·rw [if_pos hv];have hv':=NE.1 hv;by_cases hb:(List.range (CM en (h.length+1) h).length).any (bad en (CM en (h.length+1) h))=true
  ·simp only [hb,if_true];constructor
   ·intro e;cases e
   ·rintro ⟨_,rfl,h3⟩;rw [List.any_eq_true] at hb;obtain ⟨i,hi,hbi⟩:=hb;simp only [bad,Bool.and_eq_true,decide_eq_true_eq] at hbi;exact absurd hbi (h3 i (List.mem_range.1 hi))
  ·have hb':=hb;simp only [hb',if_false,Bool.false_eq_true];constructor
   ·intro e;obtain rfl:=Option.some.inj e;refine ⟨hv',rfl,fun i hi hx=>hb ?_⟩;rw [List.any_eq_true];exact ⟨i,List.mem_range.2 hi,by simp only [bad,Bool.and_eq_true,decide_eq_true_eq];exact hx⟩
   ·rintro ⟨_,rfl,_⟩;rfl
 ·rw [if_neg hv];constructor
  ·intro e;cases e
  ·rintro ⟨h1,_⟩;exact absurd (NE.2 h1) hv
def fill (o:List Int):List Int:=o.map fun x=>if x = -1 then 3 else x
theorem Ol {en:List (Int×Int)} {took o:List Int} (h:Dv en took=some o):RK en o∧MQ took o∧(o.length=en.length∧∀ x∈o,-1≤x∧x≤3)∧∀ i < o.length,¬ (o.getD i 0 > 0∧GI en o i=true):=by
 obtain ⟨⟨h1,h2⟩,rfl,h3⟩:=SL.1 h;have hk:MQ took (CM en (took.length+1) took):=IK (p:=fun o=>MQ took o) (fun x i=>fun hx=>SC hx i) _ ⟨rfl,fun _ _=>rfl⟩;refine ⟨IV _ _ (K3 _),hk,⟨hk.1.trans h1,?_⟩,h3⟩;refine IK (p:=fun o=>∀ x∈o,-1≤x∧x≤3) (fun x i hx=>?_) _ h2;unfold F1;split
 ·intro y hy;rcases List.mem_or_eq_of_mem_set hy with hy|rfl
  ·exact hx y hy
  ·omega
 ·exact hx
def Oa (S:Ac) (M:List Chunk) (r:Option (List Int)) (v:Value) (w:World):Prop :=
 match r with
 | none=>v=.tuple #[.slice none 0 0,.bool false]∧St S M w
 | some o=>∃ u,v=.tuple #[u,.bool true]∧St S (.sl u 3 1 o.length (cF Bf o)::M) w
theorem St.swap {S:Ac} {a b:Chunk} {M:List Chunk} {w:World} (h:St S (a::b::M) w):St S (b::a::M) w:=h.perm (List.Perm.swap _ _ _)
theorem Rw {np:Nat} {en:List (Int×Int)} (hl:np=en.length) (hes:∀ p∈en,NA np p) (hnp:np≤8) {i:Nat} (h:i < en.length) (n:Nat) (hn:n=np) :
  Au en[i].1∧Au en[i].2∧((en[i].1 = -1∧en[i].2=0)∨(0≤en[i].1∧en[i].1.toNat < n)):=by
 rcases hes _ (List.getElem_mem h) with e|⟨e1,e2,e3⟩
 ·rw [e];exact ⟨by unfold Au;omega,by unfold Au;omega,.inl ⟨rfl,rfl⟩⟩
 ·exact ⟨by unfold Au;omega,by unfold Au;omega,.inr ⟨e1,by omega⟩⟩
theorem IL {en:List (Int×Int)}:∀ (f g:Nat) {o:List Int},Dm o < f→Dm o < g→CM en f o=CM en g o
 | 0,_,_,h,_=>by omega
 | _,0,_,_,h=>by omega
 | f+1,g+1,o,h,h'=>by
  unfold CM;have hc:=GA en o o.length;split
  ·rename_i hb;rw [hb] at hc;simp only [if_true] at hc;exact IL f g (by omega) (by omega)
  ·rfl
theorem XG {en:List (Int×Int)} {x:List Int×Bool} {i:Nat} (h:i < x.1.length) (he:i < en.length) (h1:x.1[i] = -1) (h2:G4 en[i].1 en[i].2 x.1=true):F1 en x i=(x.1.set i 0,true):=by
 have e:en.getD i (-1,0)=en[i]:=by simp [List.getD,List.getElem?_eq_getElem he]
 unfold F1 GI;rw [JF h,e,h1,h2];rfl
theorem Rb {en:List (Int×Int)} {x:List Int×Bool} {i:Nat} (h:i < x.1.length) (he:i < en.length) (h1:¬ (x.1[i] = -1∧G4 en[i].1 en[i].2 x.1=true)):F1 en x i=x:=by
 have e:en.getD i (-1,0)=en[i]:=by simp [List.getD,List.getElem?_eq_getElem he]
 unfold F1 GI;rw [JF h,e,if_neg]
 simpa using h1
theorem eN {en:List (Int×Int)} {o:List Int} {i:Nat} (h:i < o.length) (he:i < en.length):bad en o i=(decide (o[i] > 0) && G4 en[i].1 en[i].2 o):=by
 have e:en.getD i (-1,0)=en[i]:=by simp [List.getD,List.getElem?_eq_getElem he]
 unfold bad GI;rw [JF h,e]
set_option maxRecDepth 20000 in
theorem av {S M} (w:World) (hst:St S M w) (vi vn:Value) (root pts:Int) (ins:List (By×Int×Int×Int×Unit)) (nodes:List Ea) (hi:RSl S vi ins) (hn:RSl S vn nodes) (hnn:nodes.length≤140737488355328) (hr:Au root) (hp:Au pts)
  (vt:Value) (took:List Int) (ht:RSl S vt took) (hm:took.length≤1048576) :
  Ad Tryz.prog 48 [.agg #[vi,vn,.int .i64 root,.int .i64 pts],vt] w fun v w'=>Oa S M (Dv (Bx nodes root pts) took) v w':=by
 unfold Ad;have h1:=hi.oneCell;have h2:=hn.oneCell;obtain ⟨hel,hes⟩:=SY nodes root pts;have hnp:Cx pts≤8:=by unfold Cx;omega
 have hm2:took.length≤9223372036854775807:=by omega
 cases hv:FQ took (Bx nodes root pts).length (-1) with
 | false =>
  go_enter Tryz.func48,Tryz.ntmps48;repeat' (first|(apply gK ();go_step)|(apply kc ();refine sc (Lo w hst vi vn root pts ins nodes hi hn hnn hr hp) ?_;clear hst;rintro v w ⟨S',hle,hen,hst⟩)|apply sX ()|(apply sB ();clear hst;intro bx w hst)|fail)
  have ht':=ht.mono hle;repeat' (first|(apply gK ();go_step)|(apply kc ();refine sc (Ad.eq (QC w hst _ took ht' hm2 _ (-1)) hv) ?_;clear hst;rintro v w ⟨rfl,hst⟩)|fail)
  go_ret2
  have hx:Dv (Bx nodes root pts) took=none:=by unfold Dv;rw [hv];rfl
  rw [hx];exact ⟨_,rfl,rfl,(hst.weaken hle).drop⟩
 | true =>
  have hlen:took.length=(Bx nodes root pts).length:=by
   simp only [FQ,Bool.and_eq_true,decide_eq_true_eq] at hv;omega
  have Hv:=Lib.hid hv;clear hv;go_enter Tryz.func48,Tryz.ntmps48;repeat' (first|(apply gK ();go_step)|(apply kc ();refine sc (Lo w hst vi vn root pts ins nodes hi hn hnn hr hp) ?_;clear hst;rintro v w ⟨S',hle,hen,hst⟩)|apply sX ()|(apply sB ();clear hst;intro bx w hst)|fail)
  have ht':=ht.mono hle;repeat' (first|(apply gK ();go_step)|(apply kc ();refine sc (Ad.eq (QC w hst _ took ht' hm2 _ (-1)) Hv.out) ?_;clear hst;rintro v w ⟨rfl,hst⟩)|(apply kc ();refine sc (Yp w hst vt took ht' hm) ?_;clear hst;rintro v w hst)|fail)
  have hu:=AW hst;rename Value=>u
  go_loopg [8] (Dm took+2) (fun k v wr=>∃ (o:List Int) (b:Bool),v=.bool b∧Hid (o.length=took.length∧(if b then CM (Bx nodes root pts) (Dm o+1) o=CM (Bx nodes root pts) (took.length+1) took∧Dm o+1 < k else o=CM (Bx nodes root pts) (took.length+1) took)) ∧
   St S' (.sl u 3 1 took.length (cF Bf o)::.box bx [vi,vn,.int .i64 root,.int .i64 pts] 87::M) wr)
  case atStart=>exact ⟨took,true,rfl,⟨rfl,by simp only [if_true];exact ⟨IL _ _ (by omega) (K3 _),by omega⟩⟩,hst⟩
  case round =>
   clear hst;obtain ⟨o,b,rfl,Ho,hst⟩:=hrel
   cases b with
   | true =>
    have hol:=Ho.out.1;repeat' (first|(apply gK ();go_step)|apply sX ()|fail)
    go_loopw [8,25] (fun v v2 wr=>∃ i:Nat,i≤took.length∧v2=.int .i64 i∧v=.bool (looks (Bx nodes root pts) o i).2 ∧
     St S' (.sl u 3 1 took.length (cF Bf (looks (Bx nodes root pts) o i).1)::.box bx [vi,vn,.int .i64 root,.int .i64 pts] 87::M) wr) (fun _ v _=>took.length - (intOf v).toNat)
    case atStart=>exact ⟨0,Nat.zero_le _,rfl,rfl,hst⟩
    case round =>
     clear hst;obtain ⟨i,hi',rfl,rfl,hst⟩:=hrel;have hli:(looks (Bx nodes root pts) o i).1.length=took.length:=(Pf _ _ _).trans hol;by_cases hlt:i < took.length
     ·have hlt2:i < (Bx nodes root pts).length:=by omega
      obtain ⟨hq,hs,hsh⟩:=Rw hel.symm hes hnp hlt2 (looks (Bx nodes root pts) o i).1.length (by omega);have hli2:i < (looks (Bx nodes root pts) o i).1.length:=by omega
      repeat' (first|apply sG ()|(with_reducible refine Sl.k_guard ?_;refine Sl.guard_cases rfl ?_ ?_<;>intro hg<;>(simp only [hg,Bool.not_true,Bool.not_false])<;>(try refine nX ?_))|(with_reducible refine kI ?_;(first|refine An hst (Ao Ab Ak rfl Aa Aa Af Af) ?_|refine An hst (Aq hst Ab SlIn.h rfl Aa Aa Af Af) ?_);rintro v hp;(try simp only [Int.toNat_natCast,Int.toNat_natCast_add_one,Int.reduceToNat] at hp)<;>(try refine nX ?_))|(apply gK ();go_step)|(with_reducible refine kL ?_;refine Ag hst (by exact J9 Ab Ak SlIn.h Aa Af) ?_<;>(try refine nX ?_))|(apply sD ();intro cl hcl)|fail)
      ·obtain ⟨c1,c2,e,⟨rfl,_⟩,⟨rfl,_⟩⟩:=EB (x:=(Bx nodes root pts)[i].1) (y:=(Bx nodes root pts)[i].2) hcl;subst e
       cases hsb:G4 (Bx nodes root pts)[i].1 (Bx nodes root pts)[i].2 (looks (Bx nodes root pts) o i).1 with
       | true =>
        have hlk:=Lib.hid (XG hli2 hlt2 (by simpa using hg) hsb);have c:=Ad.eq (G3 _ _ _ hq hs u _ (by rw [hli];exact hst) hsh) hsb;refine B9 c (by infer_instance) rfl ?_;clear hst c;rintro v' w ⟨rfl,hst⟩;rw [hli] at hst;refine nX ?_;repeat' (first|(with_reducible refine kI ?_;(refine An hst (Aq hst Ab SlIn.h rfl Aa Aa Af Af) ?_);rintro v hp;(try simp only [Int.toNat_natCast,Int.toNat_natCast_add_one,Int.reduceToNat] at hp)<;>(try refine nX ?_))|(with_reducible refine kS ?_;refine YI hst Ab Ak SlIn.h Aa Ab Af ?_;clear hst;intro w hst<;>(try refine nX ?_)<;>(try replace hst:=nH hst))|(apply gK ();go_step)|fail)
        go_roundw
        case rel =>
         apply gV ()
        case measure=>simp [intOf];omega
       | false =>
        have hlk:=Lib.hid (Rb hli2 hlt2 (fun h=>by rw [hsb] at h;cases h.2));have c:=Ad.eq (G3 _ _ _ hq hs u _ (by rw [hli];exact hst) hsh) hsb;refine B9 c (by infer_instance) rfl ?_;clear hst c;rintro v' w ⟨rfl,hst⟩;rw [hli] at hst;refine nX ?_;repeat' (first|(apply gK ();go_step)|fail)
        go_roundw
        case rel =>
         apply gV ()
        case measure=>simp [intOf];omega
      ·have hlk:=Lib.hid (Rb hli2 hlt2 (fun h=>by rw [h.1] at hg;cases hg));go_roundw
       case rel =>
        apply gV ()
       case measure=>simp [intOf];omega
     ·repeat' (first|(apply gK ();go_step)|fail)
      have hie:i=o.length:=by omega
      subst hie;have hc:=GA (Bx nodes root pts) o o.length;obtain ⟨_,ho1,ho2⟩:=Ho.out;go_roundg (Dm o+1)
      case measure=>omega
      case rel =>
       refine ⟨(looks (Bx nodes root pts) o o.length).1,(looks (Bx nodes root pts) o o.length).2,rfl,⟨hli,?_⟩,hst⟩;rw [CM] at ho1;split
       ·rename_i hb;rw [if_pos hb] at ho1;rw [hb] at hc;simp only [if_true] at hc;exact ⟨(IL _ _ (by omega) (by omega)).trans ho1,by omega⟩
       ·rename_i hb;rw [if_neg hb] at ho1;exact ho1
   | false =>
    have hol:=Ho.out.1;repeat' (first|(apply gK ();go_step)|apply sX ()|fail)
    go_loopw [46] (fun v wr=>∃ i:Nat,i≤took.length∧v=.int .i64 i∧Hid (∀ j < i,bad (Bx nodes root pts) o j=false) ∧
     St S' (.sl u 3 1 took.length (cF Bf o)::.box bx [vi,vn,.int .i64 root,.int .i64 pts] 87::M) wr) (fun v _=>took.length - (intOf v).toNat)
    case atStart=>exact ⟨0,Nat.zero_le _,rfl,fun j h=>by omega,hst⟩
    case round =>
     clear hst;obtain ⟨i,hi',rfl,Hb,hst⟩:=hrel;by_cases hlt:i < took.length
     ·have hlt2:i < (Bx nodes root pts).length:=by omega
      obtain ⟨hq,hs,hsh⟩:=Rw hel.symm hes hnp hlt2 o.length (by omega);have hlo:i < o.length:=by omega
      have hbad:=Lib.hid (eN hlo hlt2);repeat' (first|apply sG ()|(with_reducible refine Sl.k_guard ?_;refine Sl.guard_cases rfl ?_ ?_<;>intro hg<;>(simp only [hg,Bool.not_true,Bool.not_false])<;>(try refine nX ?_))|(with_reducible refine kI ?_;(first|refine An hst (Ao Ab Ak rfl Aa Aa Af Af) ?_|refine An hst (Aq hst Ab SlIn.h rfl Aa Aa Af Af) ?_);rintro v hp;(try simp only [Int.toNat_natCast,Int.toNat_natCast_add_one,Int.reduceToNat] at hp)<;>(try refine nX ?_))|(apply gK ();go_step)|(with_reducible refine kL ?_;refine Ag hst (by exact J9 Ab Ak SlIn.h Aa Af) ?_<;>(try refine nX ?_))|(apply sD ();intro cl hcl)|fail)
      ·obtain ⟨c1,c2,e,⟨rfl,_⟩,⟨rfl,_⟩⟩:=EB (x:=(Bx nodes root pts)[i].1) (y:=(Bx nodes root pts)[i].2) hcl;subst e
       cases hsb:G4 (Bx nodes root pts)[i].1 (Bx nodes root pts)[i].2 o with
       | true =>
        have Hsb:=Lib.hid hsb;have Hg:=Lib.hid hg;have c:=Ad.eq (G3 _ _ _ hq hs u _ (by rw [hol];exact hst) hsh) hsb;refine B9 c (by infer_instance) rfl ?_;clear hst c hsb;rintro v' w ⟨rfl,hst⟩;refine nX ?_;repeat' (first|(apply gK ();go_step)|fail)
        go_ret2
        have hx:Dv (Bx nodes root pts) took=none:=by
         unfold Dv;rw [Hv.out,if_pos rfl];have e:CM (Bx nodes root pts) (took.length+1) took=o:=Ho.out.2.symm;simp only [e];rw [if_pos];rw [List.any_eq_true];exact ⟨i,List.mem_range.2 hlo,by rw [hbad.out,Hsb.out];simpa using Hg.out⟩
        rw [hx];exact ⟨_,rfl,rfl,(hst.weaken hle).drop.drop⟩
       | false =>
        have Hsb:=Lib.hid hsb;have c:=Ad.eq (G3 _ _ _ hq hs u _ (by rw [hol];exact hst) hsh) hsb;refine B9 c (by infer_instance) rfl ?_;clear hst c hsb;rintro v' w ⟨rfl,hst⟩;rw [hol] at hst;refine nX ?_;repeat' (first|(apply gK ();go_step)|fail)
        go_roundw
        case rel =>
         refine ⟨i+1,by omega,by go_num,fun j hj=>?_,hst⟩;rcases Nat.lt_succ_iff_lt_or_eq.1 hj with h|rfl
         ·exact Hb.out j h
         ·rw [hbad.out,Hsb.out];simp
        case measure=>simp [intOf];omega
      ·go_roundw
       case rel =>
        refine ⟨i+1,by omega,by go_num,fun j hj=>?_,hst⟩;rcases Nat.lt_succ_iff_lt_or_eq.1 hj with h|rfl
        ·exact Hb.out j h
        ·rw [hbad.out,hg];rfl
       case measure=>simp [intOf];omega
     ·repeat' (first|(apply gK ();go_step)|fail)
      go_ret2
      have hx:Dv (Bx nodes root pts) took=some o:=by
       unfold Dv;rw [Hv.out,if_pos rfl];have e:CM (Bx nodes root pts) (took.length+1) took=o:=Ho.out.2.symm;simp only [e];rw [if_neg];rw [List.any_eq_true];rintro ⟨j,hj,hjb⟩;rw [Hb.out j (by have:=List.mem_range.1 hj;omega)] at hjb;cases hjb
      rw [hx];refine ⟨_,rfl,u,rfl,?_⟩;rw [hol];exact (St.swap (hst.weaken hle)).drop
end Go.Proofs.YtmmbidoldegemaaGreatDoor
