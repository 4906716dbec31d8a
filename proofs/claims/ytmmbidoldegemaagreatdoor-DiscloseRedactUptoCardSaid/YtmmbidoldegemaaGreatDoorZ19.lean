/- Part 20 of a proof; no conditions. -/
import Derived.Test.YtmmbidoldegemaaGreatDoorZ08
set_option linter.all false
set_option maxRecDepth 8000
set_option maxHeartbeats 8000000
namespace Go.Proofs.YtmmbidoldegemaaGreatDoor
open Go.RowKit Go.Sl
section
variable {l:List Tk}
def EY (B:Nat) (x:PS):Prop:=∀ n∈x.nds,n.2.2.2.1.length≤B
theorem EY.eq {B x y} (h:EY B x) (e:y.nds=x.nds):EY B y:=by unfold EY;rw [e];exact h
theorem Eu {B x n} (h:EY B x) (hn:0≤x.k→n.2.2.2.1.length≤B):EY B (BA x n).2:=by
 unfold BA;split
 ·exact h
 ·intro m hm;rcases List.mem_append.1 hm with hm|hm
  ·exact h m hm
  ·obtain rfl:=List.mem_singleton.1 hm;exact hn (by omega)
theorem QG {B} (hB:3≤B) (f):(∀ x lv,EY B x→EY B (A0 l f x lv).2)∧(∀ a x lv,EY B x→EY B (opsP l f a x lv).2)∧∀ x,EY B x→EY B (unaryP l f x).2:=by
 induction f with
 | zero=>exact ⟨fun x lv h=>by unfold A0;exact h.eq rfl,fun a x lv h=>by unfold opsP;exact h.eq rfl,fun x h=>by unfold unaryP;exact h.eq rfl⟩
 | succ f ih =>
  obtain ⟨i1,i2,i3⟩:=ih;refine ⟨fun x lv h=>?_,fun a x lv h=>?_,fun x h=>?_⟩
  ·unfold A0;split
   ·exact i3 _ h
   ·exact i2 _ _ _ (i1 _ _ h)
  ·unfold opsP;simp only;split
   ·have h1:EY B (BA (A0 l f { x with k:=x.k+1 } (lv+1)).2 (CU l x lv,0,⟨[]⟩,[a,(A0 l f { x with k:=x.k+1 } (lv+1)).1],())).2 :=
     Eu (i1 _ (lv+1) (h.eq rfl)) (fun _=>by show 2≤B;omega)
    split
    ·exact h1
    ·exact i2 _ _ _ h1
   ·exact h
  ·unfold unaryP;split
   ·exact Eu (i3 _ (h.eq (By _ _))) (fun _=>by show 1≤B;omega)
   ·split
    ·exact (i1 _ 0 (h.eq (By _ _))).eq (By _ _)
    ·split
     ·exact Eu (h.eq (B7 _).1) (fun _=>Nat.zero_le _)
     ·exact Eu (h.eq (CP _).1) (fun _=>Nat.zero_le _)
theorem X6 {B} (hB:3≤B) {f x} (h:EY B x):EY B (DB l f x).2∧(DB l f x).1.2.2.2.1.length≤B:=by
 have e:=(QG (l:=l) hB f).1;unfold DB;split
 ·exact ⟨e _ 0 (((h.eq (By _ _)).eq (CP _).1).eq (By _ _)),by show 1≤B;omega⟩
 ·split
  ·exact ⟨e _ 0 (h.eq (By _ _)),by show 1≤B;omega⟩
  ·split
   ·exact ⟨(h.eq (By _ _)).eq (B7 _).1,Nat.zero_le _⟩
   ·exact ⟨h.eq (By _ _),Nat.zero_le _⟩
theorem XO {B} (hB:l.length+3≤B) (g f):(∀ s x,AL l s x→EY B x→EY B (Ce l g f x).2)∧(∀ s x,AL l s x→EY B x→EY B (blockP l g f x).2)∧∀ s x of,AL l (s+1) x→(x.k < 0∨(of.length:Int)≤x.k)→EY B x→EY B (listP l g f x of).2:=by
 induction f with
 | zero=>exact ⟨fun s x _ h=>by unfold Ce;exact h.eq rfl,fun s x _ h=>by unfold blockP;exact h.eq rfl,fun s x of _ _ h=>by unfold listP;exact h.eq rfl⟩
 | succ f ih =>
  obtain ⟨i1,i2,i3⟩:=ih;have e:=(QG (l:=l) (show 3≤B by omega) g).1;have ei:=(Er (l:=l) g).1;refine ⟨fun s x hi h=>?_,fun s x hi h=>?_,fun s x of hi hk h=>?_⟩
  ·unfold Ce;split
   ·have j0:AL l (s+1) (Al l { x with pts:=x.pts+1 } [105,102]):=Qw hi (by assumption);have h0:EY B (Al l { x with pts:=x.pts+1 } [105,102]):=EY.eq (x:={ x with pts:=x.pts+1 }) (h.eq rfl) (By _ _);have j1:=ei _ _ 0 j0;have h1:=e _ 0 h0;have h2:=i2 _ _ j1 h1;have j2:=(ES (l:=l) g f).2.1 _ _ j1;simp only;split
    ·have h3:=i2 _ _ (AR [101,108,115,101] j2) (h2.eq (By _ _));exact Eu h3 (fun _=>by show 3≤B;omega)
    ·exact Eu h2 (fun _=>by show 2≤B;omega)
   ·split
    ·have j1:=CZ (l:=l) (AR [114,101,112,101,97,116] hi);exact Eu (i2 _ _ j1 ((h.eq (By _ _)).eq (B7 _).1)) (fun _=>by show 1≤B;omega)
    ·have h1:=X6 (l:=l) (show 3≤B by omega) (f:=g) h;exact Eu (h1.1.eq (By _ _)) (fun _=>h1.2)
  ·unfold blockP;have j1:=AR [123] hi
   exact i3 s _ _ j1 (by
    have:=j1.lo;show _∨(0:Int)≤_;omega) (h.eq (By _ _))
  ·unfold listP;split
   ·have h1:=i1 _ x hi h;have j1:=(ES (l:=l) g f).1 _ _ hi;have a1:=(Hm (l:=l) g f).1 x hi.lo
    exact i3 s _ _ j1 (by
     unfold BT at a1;simp only [List.length_append,List.length_cons,List.length_nil];omega) h1
   ·refine Eu (h.eq (By _ _)) (fun h0=>?_);have hh:=hi.hi;have hm:=Oc (l:=l) x [125];show of.length≤B;split at hm
    ·have:=Fl (l:=l) (by assumption);omega
    ·omega
theorem RK {B:Nat} (hB:l.length+3≤B) (g:Nat):∀ (f:Nat) (x:PS) (of:List Int),AL l 0 x→(x.k < 0∨(of.length:Int)≤x.k)→EY B x→EY B (Ft l g f x of).2
 | 0,x,of,hi,hk,h=>by unfold Ft;exact h.eq rfl
 | f+1,x,of,hi,hk,h=>by
  unfold Ft;split
  ·have h1:=(XO hB g g).1 _ x hi h;have j1:=(ES (l:=l) g g).1 _ _ hi;have a1:=(Hm (l:=l) g g).1 x hi.lo
   exact RK hB g f _ _ j1 (by
    unfold BT at a1;simp only [List.length_append,List.length_cons,List.length_nil];omega) h1
  ·refine Eu h (fun h0=>?_);have hh:=hi.hi;show of.length≤B;omega
theorem PC {g:Nat}:∀ (f:Nat) (x:PS) (of:List Int),(Ft l g f x of).2.ins=x.ins
 | 0,x,of=>by unfold Ft;rfl
 | f+1,x,of=>by
  unfold Ft;split
  ·exact (PC f _ _).trans ((OH (l:=l) g g).1 x)
  ·exact Dz _ _
theorem Me:∀ (f:Nat) (x:PS),(B6 l f x).ins.length≤x.ins.length+f∧(B6 l f x).nds=x.nds
 | 0,x=>by unfold B6;exact ⟨Nat.le_refl _,rfl⟩
 | f+1,x=>by
  unfold B6;split
  ·have h:=Me f (C8 l x);rw [Nz,List.length_append,Nx] at h;exact ⟨Nat.le_trans h.1 (by simp only [List.length_cons,List.length_nil];omega),h.2⟩
  ·exact ⟨by omega,rfl⟩
theorem Mf:∀ (f:Nat) (x:PS),AL l 0 x→AL l 0 (B6 l f x)
 | 0,x,h=>by unfold B6;exact h
 | f+1,x,h=>by
  unfold B6;split
  ·exact Mf f _ (Ny h)
  ·exact h
end
theorem TL (s):(Cq s).1.1.length≤1501∧(Cq s).1.2.1.length≤400∧∀ x∈(Cq s).1.2.1,x.2.2.2.1.length≤1503:=by
 have ht:=LY s;unfold Cq;generalize (CF s).1=l at *;split
 ·exact ⟨Nat.zero_le _,Nat.zero_le _,fun x hx=>by cases hx⟩
 ·split
  ·exact ⟨Nat.zero_le _,Nat.zero_le _,fun x hx=>by cases hx⟩
  ·have hi:AL l 0 (B6 l (l.length+1) ⟨0,[],[],0⟩):=Mf _ _ (.inl ⟨by show (0:Int)+0≤0;omega,by show (0:Int)≤_;omega,by show (0:Int)≤0;omega,by show (0:Int)≤0;omega⟩);have hl:=Me (l:=l) (l.length+1) ⟨0,[],[],0⟩;have h0:EY 1503 (B6 l (l.length+1) ⟨0,[],[],0⟩):=by intro n hn;rw [hl.2] at hn;cases hn
   have h1:=RK (l:=l) (B:=1503) (by omega) (8 * l.length+8) (l.length+1) _ [] hi (by
    have h1:=hi.lo;generalize (B6 l (l.length+1) ⟨0,[],[],0⟩).k=k at *;show k < 0∨(0:Int)≤k;omega) h0
   have h2:=PC (l:=l) (g:=8 * l.length+8) (l.length+1) (B6 l (l.length+1) ⟨0,[],[],0⟩) [];unfold Oo;split
   ·exact ⟨Nat.zero_le _,Nat.zero_le _,fun x hx=>by cases hx⟩
   ·split
    ·exact ⟨Nat.zero_le _,Nat.zero_le _,fun x hx=>by cases hx⟩
    ·refine ⟨?_,by rename_i hh;exact Nat.le_of_not_lt hh,h1⟩;show (Ft l (8 * l.length+8) (l.length+1) (B6 l (l.length+1) ⟨0,[],[],0⟩) []).2.ins.length≤1501;rw [h2];have:=hl.1;simp only [List.length_nil] at this;omega
end Go.Proofs.YtmmbidoldegemaaGreatDoor
namespace Go.Proofs.YtmmbidoldegemaaGreatDoor
open Go.RowKit Go.Sl Go.Proofs.Tryz
theorem Pf {S M} (w) (V:St S M w) (k):
  Ac prog 137 [.int .i64 k] w fun v w'=>v=.int .i64 (Ea k)∧St S M w':=by
 unfold Ac;unfold Ea;by_cases h1:1≤k∧k≤10
 ·rw [if_pos h1];go_enter func137,ntmps137;repeat' (first|apply sG ()|(apply O ();go_step)|fail)
  go_ret;exact ⟨_,rfl,rfl,V⟩
 ·rw [if_neg h1];by_cases h2:11≤k∧k≤16
  ·rw [if_pos h2];go_enter func137,ntmps137;repeat' (first|apply sG ()|(with_reducible refine Sl.k_guard ?_;refine Sl.guard_cases rfl ?_ ?_<;>intro hg<;>first|exact gX|(simp only [hg,Bool.not_true,Bool.not_false])<;>(try replace hg:=gN hg)<;>apply nW ())|(apply O ();go_step)|fail)
   go_ret;exact ⟨_,rfl,rfl,V⟩
  ·rw [if_neg h2];by_cases h3:k=17
   ·rw [if_pos h3];subst h3;go_enter func137,ntmps137;repeat' (first|apply sG ()|(apply O ();go_step)|fail)
    go_ret;exact ⟨_,rfl,rfl,V⟩
   ·rw [if_neg h3];go_enter func137,ntmps137;repeat' (first|go_skip|apply sG ()|(with_reducible refine Sl.k_guard ?_;refine Sl.guard_cases rfl ?_ ?_<;>intro hg<;>first|exact gX|(simp only [hg,Bool.not_true,Bool.not_false])<;>(try replace hg:=gN hg)<;>apply nW ())|(apply O ();go_step)|fail)
    all_goals first
     | (exfalso;omega)
     | (go_ret;exact ⟨_,rfl,rfl,V⟩)
theorem gg {S M} (w) (V:St S M w) (n a b):
  Ac prog 112 [.int .i64 n,.int .i64 a,.int .i64 b] w fun v w'=>v=.bool (decide (a≤n∧n≤b))∧St S M w':=by
 unfold Ac;obtain ⟨R,hR⟩:∃ R,decide (a≤n∧n≤b)=R:=⟨_,rfl⟩
 rw [hR]
 cases R with
 | true =>
  have h:=of_decide_eq_true hR;clear hR;go_enter func112,ntmps112;repeat' (first|apply sG ()|(apply O ();go_step)|fail)
  all_goals first
   | (exfalso;omega)
   | (go_ret;exact ⟨_,rfl,by simp only [decide_eq_true_eq,Value.bool.injEq];omega,V⟩)
   | (go_ret;exact ⟨_,rfl,rfl,V⟩)
 | false =>
  have h:=of_decide_eq_false hR;clear hR;by_cases h1:a≤n
  ·have h2:¬ n≤b:=fun e=>h ⟨h1,e⟩
   clear h;go_enter func112,ntmps112;repeat' (first|apply sG ()|(apply O ();go_step)|fail)
   all_goals first
    | (exfalso;omega)
    | (go_ret;exact ⟨_,rfl,rfl,V⟩)
    | (go_ret;exact ⟨_,rfl,by simp only [decide_eq_false_iff_not,Value.bool.injEq];omega,V⟩)
  ·clear h;go_enter func112,ntmps112;repeat' (first|go_skip|(apply O ();go_step)|fail)
   all_goals first
    | (exfalso;omega)
    | (go_ret;exact ⟨_,rfl,rfl,V⟩)
theorem Fm {S M} (w) (V:St S M w) (a b) (ha:0≤a∧a≤100000) (hb:0≤b∧b≤100000):
  Ac prog 113 [.int .i64 a,.int .i64 b] w fun v w'=>v=.int .i64 (C9 a b)∧St S M w':=by
 unfold Ac;unfold C9;by_cases h:a+b > 3001
 ·rw [if_pos h];go_enter func113,ntmps113;apply W8 ()
 ·rw [if_neg h];go_enter func113,ntmps113;apply W8 ()
abbrev Jr (S:Ad) (M:List J) (xs:List Int) (v:Value) (w:World):Prop:=∃ S' so,S.Le S'∧v=Ar so∧RSl S' (Ar so) xs∧St S' M w
theorem Ex {S M w v T} {xs:List Int} {c n} (V:St S (.sl v T 1 n c::M) w) (h:RL S c xs) (hn:n=xs.length):∃ S' so,S.Le S'∧v=Ar so∧RSl S' (Ar so) xs∧St S' M w:=by
 obtain ⟨S',hS,hs,hx⟩:=St.freeze (α:=Int) V h hn;obtain ⟨a,m,k,rfl⟩:=BQ hx;exact ⟨S',(a,m,k),hS,rfl,hx,hs⟩
theorem Yu {S a b c} (h:Au a) (k:Au b) (m:Au c):RL S [.int .i64 a,.int .i64 b,.int .i64 c] [a,b,c]:=RL.append (c:=[_,_]) (Iq h k) (Cw m)
theorem Xe {S M} (w) (V:St S M w) (k) (many:Nat) (h:3≤k∧k≤9):
  Ac prog 136 [.int .i64 k,.int .i64 (many:Int)] w (Jr S M [1,1]):=by
 unfold Ac;obtain rfl|rfl|rfl|rfl|rfl|rfl|rfl:k=3∨k=4∨k=5∨k=6∨k=7∨k=8∨k=9:=by omega
 all_goals
  go_enter func136,ntmps136;repeat' (first|(apply O ();go_step)|fail)
  refine Ay (vs:=[.int .i64 1,.int .i64 1]) V Y Y rfl rfl (by simp [Value.cells]) rfl (by omega) (by omega) ?_;clear V;intro xx w V;obtain ⟨S2,so,hS2,rfl,hx,hst2⟩:=Ex V (Iq (Ah (by decide)) (Ah (by decide))) rfl;apply W9 ()
theorem Xg {S M} (w) (V:St S M w) (k) (many:Nat) (h:k=10∨k=11∨k=14):
  Ac prog 136 [.int .i64 k,.int .i64 (many:Int)] w (Jr S M [1]):=by
 unfold Ac;obtain rfl|rfl|rfl:=h
 all_goals
  go_enter func136,ntmps136;repeat' (first|(apply O ();go_step)|fail)
  refine Ay (vs:=[.int .i64 1]) V Y Y rfl rfl (by simp [Value.cells]) rfl (by omega) (by omega) ?_;clear V;intro xx w V;obtain ⟨S2,so,hS2,rfl,hx,hst2⟩:=Ex V (Cw (Ah (by decide))) rfl;apply W9 ()
theorem Xh {S M} (w) (V:St S M w) (k) (many:Nat) (h:k=12) (h3:many=3):
  Ac prog 136 [.int .i64 k,.int .i64 (many:Int)] w (Jr S M [1,3,3]):=by
 unfold Ac;subst h;subst h3
 all_goals
  go_enter func136,ntmps136;repeat' (first|(apply O ();go_step)|fail)
  refine Ay (vs:=[.int .i64 1,.int .i64 3,.int .i64 3]) V Y Y rfl rfl (by simp [Value.cells]) rfl (by omega) (by omega) ?_;clear V;intro xx w V;obtain ⟨S2,so,hS2,rfl,hx,hst2⟩:=Ex V (Yu (Ah (by decide)) (Ah (by decide)) (Ah (by decide))) rfl;apply W9 ()
theorem Xi {S M} (w) (V:St S M w) (k) (many:Nat) (h:k=12) (h3:¬ many=3):
  Ac prog 136 [.int .i64 k,.int .i64 (many:Int)] w (Jr S M [1,3]):=by
 unfold Ac;subst h;have h4:((many:Int) == 3)=false:=beq_eq_false_iff_ne.2 (by omega)
 all_goals
  go_enter func136,ntmps136;repeat' (first|apply sK ()|(apply O ();go_step)|fail)
  refine Ay (vs:=[.int .i64 1,.int .i64 3]) V Y Y rfl rfl (by simp [Value.cells]) rfl (by omega) (by omega) ?_;clear V;intro xx w V;obtain ⟨S2,so,hS2,rfl,hx,hst2⟩:=Ex V (Iq (Ah (by decide)) (Ah (by decide))) rfl;apply W9 ()
theorem Xf {S M} (w) (V:St S M w) (k) (many:Nat) (h:k=13):
  Ac prog 136 [.int .i64 k,.int .i64 (many:Int)] w (Jr S M [3]):=by
 unfold Ac;subst h
 all_goals
  go_enter func136,ntmps136;repeat' (first|(apply O ();go_step)|fail)
  refine Ay (vs:=[.int .i64 3]) V Y Y rfl rfl (by simp [Value.cells]) rfl (by omega) (by omega) ?_;clear V;intro xx w V;obtain ⟨S2,so,hS2,rfl,hx,hst2⟩:=Ex V (Cw (Ah (by decide))) rfl;apply W9 ()
theorem Xj {S M} (w) (V:St S M w) (k) (many:Nat) (hm:many≤100000) (h:k < 3∨15≤k):
  Ac prog 136 [.int .i64 k,.int .i64 (many:Int)] w (Jr S M (if k=17 then List.replicate many 2 else [])):=by
 unfold Ac;by_cases h17:k=17
 ·rw [if_pos h17];subst h17;go_enter func136,ntmps136;replace V:=V.nil 3 1;repeat' ((apply ZZ 21);first|(apply O ();go_step)|fail)
  repeat' (first|(apply O ();go_step)|fail)
  go_loopw [5,6] (fun u5 u6 wr=>∃ (i:Nat) (so:Sv) (co:List Value),i≤many∧u5=Ar so∧u6=.int .i64 (i:Int)∧RL S co (List.replicate i (2:Int))∧St S (.sl (Ar so) 3 1 i co::M) wr) (fun _ v _=>many - (intOf v).toNat)
  case atStart=>exact ⟨0,(none,0,0),[],Nat.zero_le _,rfl,rfl,RL.nil,V⟩
  case round =>
   clear V;obtain ⟨i,so,co,hi,rfl,rfl,hR,V⟩:=hrel;have hone:=Go.Sl.AY V;by_cases hlt:i < many
   ·repeat' (first|apply sG ()|(apply O ();go_step)|fail)
    refine Ay (vs:=[(.int .i64 2)]) V Y Y rfl rfl (by simp [Value.cells]) rfl (by omega) (by omega) ?_;clear V;intro u w V;refine nX ?_;refine AF (j:=0) V X X SlIn.h rfl Y Y Y (by simp [Value.cells,Value.oneCell']) (by omega) (by omega) (by decide) ?_;clear V;intro v' w V;refine nX ?_;(try replace V:=nH V);replace V:=V.drop;obtain ⟨ay,cy,rfl⟩:=Go.Sl.sl_formk (k:=0) V rfl;apply nW ();repeat' (first|(apply O ();go_step)|fail)
    go_roundw
    case rel=>exact ⟨i+1,(ay,i+1,cy),co++[.int .i64 2],by omega,rfl,by go_num,by rw [List.replicate_succ'];exact hR.append (Cw (Ah (by decide))),V⟩
    case measure=>simp [intOf];omega
   ·obtain rfl:i=many:=by omega
    repeat' (first|apply sG ()|(apply O ();go_step)|fail)
    obtain ⟨S2,so2,hS2,e2,hx,hst2⟩:=Ex V hR (by simp);clear V;have V:=hst2;clear hst2;go_ret;exact ⟨_,rfl,S2,so2,hS2,e2,hx,V⟩
 ·rw [if_neg h17];have h9:k≠3∧k≠4∧k≠5∧k≠6∧k≠7∧k≠8∧k≠9∧k≠10∧k≠11∧k≠14∧k≠12∧k≠13:=by omega
  have hb:∀ n:Int,n=3∨n=4∨n=5∨n=6∨n=7∨n=8∨n=9∨n=10∨n=11∨n=14∨n=12∨n=13∨n=17→(k == n)=false:=fun n hn=>beq_eq_false_iff_ne.2 (by omega)
  have e3:=hb 3 (by omega);have e4:=hb 4 (by omega);have e5:=hb 5 (by omega);have e6:=hb 6 (by omega);have e7:=hb 7 (by omega);have e8:=hb 8 (by omega);have e9:=hb 9 (by omega);have e10:=hb 10 (by omega);have e11:=hb 11 (by omega);have e14:=hb 14 (by omega);have e12:=hb 12 (by omega);have e13:=hb 13 (by omega);have e17:=hb 17 (by omega);clear hb h9 h h17;go_enter func136,ntmps136;repeat' (first|apply sK ()|(apply O ();go_step)|fail)
  go_loopw [5,6] (fun u5 u6 wr=>u5=.slice none 0 0∧u6=.int .i64 0∧St S M wr) (fun _ _ _=>0)
  case atStart=>exact ⟨rfl,rfl,V⟩
  case round =>
   clear V;obtain ⟨rfl,rfl,V⟩:=hrel;by_cases h0:0 < many
   ·repeat' (first|apply sK ()|apply sG ()|(apply O ();go_step)|fail)
    go_ret;exact ⟨_,rfl,S,(none,0,0),.refl _,rfl,GO,V⟩
   ·repeat' (first|apply sG ()|(apply O ();go_step)|fail)
    go_ret;exact ⟨_,rfl,S,(none,0,0),.refl _,rfl,GO,V⟩
theorem er {S M} (w) (V:St S M w) (k) (many:Nat) (hm:many≤100000):
  Ac prog 136 [.int .i64 k,.int .i64 (many:Int)] w (Jr S M (EW k many)):=by
 unfold EW;by_cases h1:3≤k∧k≤9
 ·rw [if_pos h1];exact Xe w V k many h1
 ·rw [if_neg h1];by_cases h2:k=10∨k=11∨k=14
  ·rw [if_pos h2];exact Xg w V k many h2
  ·rw [if_neg h2];by_cases h3:k=12
   ·rw [if_pos h3];by_cases h4:many=3
    ·rw [if_pos h4];exact Xh w V k many h3 h4
    ·rw [if_neg h4];exact Xi w V k many h3 h4
   ·rw [if_neg h3];by_cases h5:k=13
    ·rw [if_pos h5];exact Xf w V k many h5
    ·rw [if_neg h5];exact Xj w V k many hm (by omega)
abbrev Bo (si sn:Sv) (p:Pg):Value:=.agg #[.slice si.1 si.2.1 si.2.2,.slice sn.1 sn.2.1 sn.2.2,.int .i64 p.2.2.1,.int .i64 p.2.2.2.1]
structure Cm (S:Ad) (si sn:Sv) (p:Pg):Prop where
 i:RSl S (Ar si) p.1
 n:RSl S (Ar sn) p.2.1
 r:Au p.2.2.1
 q:Au p.2.2.2.1
 li:p.1.length≤100000
 ln:p.2.1.length≤100000
 lo:∀ x∈p.2.1,x.2.2.2.1.length≤100000
theorem Cm.mono {S S' si sn p} (h:Cm S si sn p) (hS:S.Le S'):Cm S' si sn p:=⟨h.i.mono hS,h.n.mono hS,h.r,h.q,h.li,h.ln,h.lo⟩
theorem JG (a b:Cv):decide (a=b)=decide (a.b=b.b):=by
 cases a;cases b
 simp
theorem MI {α:Type} (q) (xs:List α) {i} (h):(xs.take (i+1)).any q=((xs.take i).any q || q xs[i]):=by
 rw [List.take_succ_eq_append_getElem h,List.any_append];simp
theorem Hh {α:Type} {q} {xs:List α} {i} (h:(xs.take i).any q=true):xs.any q=true:=by
 rw [List.any_eq_true] at h ⊢;obtain ⟨x,hx,hq⟩:=h;exact ⟨x,List.mem_of_mem_take hx,hq⟩
theorem O7 {S M} (w) (V:St S M w) (si sn p) (L:Cm S si sn p) (s):
  Ac prog 109 [Bo si sn p,.string ⟨s.b.toArray⟩] w fun v w'=>v=.bool (HJ p s)∧St S M w':=by
 unfold Ac;have hi:=L.i;have hl:=L.li;unfold HJ;generalize hxs:p.1=xs at *;clear hxs L;obtain ⟨R,hR⟩:∃ R,(xs.any fun i=>decide (i.1=s))=R:=⟨_,rfl⟩
 rw [hR];have HR:=Lib.hid hR;clear hR;go_enter func109,ntmps109;repeat' (first|(apply O ();go_step)|(apply sB ();clear V;intro bx w V)|fail)
 go_loopw [5] (fun u5 wr=>∃ (i:Nat),i≤xs.length∧u5=.int .i64 (i:Int)∧Hid ((xs.take i).any (fun i=>decide (i.1=s))=false)∧St S (.box bx [.slice si.1 si.2.1 si.2.2,.slice sn.1 sn.2.1 sn.2.2,.int .i64 p.2.2.1,.int .i64 p.2.2.2.1] 87::M) wr) (fun v _=>xs.length - (intOf v).toNat)
 case atStart=>exact ⟨0,Nat.zero_le _,rfl,Lib.hid rfl,V⟩
 case round =>
  clear V;obtain ⟨i,hi2,rfl,hn,V⟩:=hrel;by_cases hlt:i < xs.length
  ·obtain ⟨z,hz⟩:∃ z,decide (xs[i].1.b=s.b)=z:=⟨_,rfl⟩
   have hnx:=Lib.hid (MI (fun i=>decide (i.1=s)) xs hlt)
   cases z with
   | true =>
    repeat' (first|(apply tB ();refine Ag V (AA rfl rfl Y hz) ?_<;>apply nW ())|(apply O ();go_step)|(apply tL ();refine An V (AO X Ak Y) ?_;rintro v ⟨rfl,hs⟩<;>apply nW ())|apply sX ()|(apply sI ();intro v L)|fail)
    go_ret;refine ⟨_,rfl,?_,V.sub⟩;have h1:=hnx.out;rw [hn.out,JG,hz] at h1;rw [← HR.out,Hh h1];rfl
   | false =>
    repeat' (first|(apply tB ();refine Ag V (AA rfl rfl Y hz) ?_<;>apply nW ())|(apply O ();go_step)|(apply tL ();refine An V (AO X Ak Y) ?_;rintro v ⟨rfl,hs⟩<;>apply nW ())|apply sX ()|(apply sI ();intro v L)|fail)
    go_roundw
    case rel=>exact ⟨i+1,by omega,by go_num,Lib.hid (by rw [hnx.out,hn.out,JG,hz];rfl),V⟩
    case measure=>simp [intOf];omega
  ·repeat' (first|(apply O ();go_step)|apply sX ()|fail)
   go_ret;refine ⟨_,rfl,?_,V.sub⟩;have h1:=hn.out;rw [List.take_of_length_le (by omega),HR.out] at h1;rw [h1];rfl
theorem Rz (s x r i):EL s (x::r) i=if (x.1 == 11 && decide (x.2.2.1.b=s.b))=true then i else EL s r (i+1):=by
 rw [EL];by_cases h:x.1=11∧x.2.2.1=s
 ·rw [if_pos h,if_pos (by rw [← JG];simpa using h)]
 ·rw [if_neg h,if_neg (by rw [← JG];simpa using h)]
theorem LL {S M} (w) (V:St S M w) (si sn p) (L:Cm S si sn p) (s):
  Ac prog 110 [Bo si sn p,.string ⟨s.b.toArray⟩] w fun v w'=>v=.int .i64 (B0 p s)∧St S M w':=by
 unfold Ac;have hi:=L.n;have hl:=L.ln;unfold B0;generalize hxs:p.2.1=xs at *;clear hxs L;obtain ⟨R,hR⟩:∃ R,EL s xs 0=R:=⟨_,rfl⟩
 rw [hR];have HR:=Lib.hid hR;clear hR;go_enter func110,ntmps110;repeat' (first|(apply O ();go_step)|(apply sB ();clear V;intro bx w V)|fail)
 go_loopw [5] (fun u5 wr=>∃ (i:Nat),i≤xs.length∧u5=.int .i64 (i:Int)∧Hid (EL s (xs.drop i) (i:Int)=R)∧St S (.box bx [.slice si.1 si.2.1 si.2.2,.slice sn.1 sn.2.1 sn.2.2,.int .i64 p.2.2.1,.int .i64 p.2.2.2.1] 87::M) wr) (fun v _=>xs.length - (intOf v).toNat)
 case atStart=>exact ⟨0,Nat.zero_le _,rfl,HR,V⟩
 case round =>
  clear V HR;obtain ⟨i,hi2,rfl,HR,V⟩:=hrel;by_cases hlt:i < xs.length
  ·have HN:=HR.out;rw [List.drop_eq_getElem_cons hlt,Rz] at HN;obtain ⟨z,hz⟩:∃ z,(xs[i].1 == 11)=z:=⟨_,rfl⟩
   obtain ⟨z2,hz2⟩:∃ z,decide (xs[i].2.2.1.b=s.b)=z:=⟨_,rfl⟩
   rw [hz,hz2] at HN;replace HN:=Lib.hid HN;clear HR
   cases z with
   | false =>
    repeat' (first|apply sK ()|apply sG ()|(apply O ();go_step)|apply sX ()|(apply sN ();intro hI)|(apply sI ();intro v L)|fail)
    apply SN ()
   | true =>
    cases z2 with
    | false =>
     repeat' (first|(apply tB ();refine Ag V (AA rfl rfl Y hz2) ?_<;>apply nW ())|apply sK ()|apply sG ()|(apply O ();go_step)|(apply tL ();refine An V (AO X Ak Y) ?_;rintro v ⟨rfl,hs⟩<;>apply nW ())|apply sX ()|(apply sN ();intro hI)|(apply sI ();intro v L)|fail)
     apply SN ()
    | true =>
     repeat' (first|(apply tB ();refine Ag V (AA rfl rfl Y hz2) ?_<;>apply nW ())|apply sK ()|apply sG ()|(apply O ();go_step)|(apply tL ();refine An V (AO X Ak Y) ?_;rintro v ⟨rfl,hs⟩<;>apply nW ())|apply sX ()|(apply sN ();intro hI)|(apply sI ();intro v L)|fail)
     go_ret;exact ⟨_,rfl,by rw [← HN.out];rfl,V.sub⟩
  ·have HN:=HR.out;rw [List.drop_of_length_le (by omega)] at HN;replace HN:=Lib.hid HN;apply jt ()
section
variable {ns:List Nd}
structure g8 (k:Int) (w r:Wk):Prop where
 n1:w.1≤r.1
 p1:w.2.1≤r.2.1
 ok:r.2.2=false→r.1=k+1∧r.2.1 - w.2.1≤r.1 - w.1
 n2:r.1≤max w.1 k+k+1
 p2:r.2.1 - w.2.1≤r.1 - w.1+1
structure nM (k:Int) (w:Wk) (r:Wk×Bool):Prop where
 n1:w.1≤r.1.1
 p1:w.2.1≤r.1.2.1
 gave:r.2=true→r.1.2.2=true∧r.1.1≤max w.1 k∧r.1.2.1 - w.2.1≤r.1.1 - w.1
 bad:r.2=false→r.1.2.2=true→r.1.1≤max w.1 k+k∧r.1.2.1 - w.2.1≤r.1.1 - w.1+1
 ok:r.1.2.2=false→r.1.1≤max w.1 k∧r.1.2.1 - w.2.1≤r.1.1 - w.1
theorem NW {rec:Int→Wk→Wk} {k:Int} (hk:0≤k) (h:∀ o w,0≤o→o < k→w.2.2=false→g8 o w (rec o w)):∀ (os cs:List Int) (w:Wk),w.2.2=false→nM k w (Ca rec ns k os cs w)
 | [],cs,w,hw=>by
  have e:Ca rec ns k [] cs w=(w,false):=by cases cs<;>rfl
  apply jF ()
 | o::os,[],w,hw=>by
  have e:Ca rec ns k (o::os) [] w=(w,false):=rfl;apply jF ()
 | o::os,c::cs,w,hw=>by
  rw [Ca,if_neg (by rw [hw];decide)];by_cases hc:o < 0∨k≤o∨Ea (Az ns o).1≠c
  ·rw [if_pos hc];exact ⟨Int.le_refl _,Int.le_refl _,fun _=>⟨rfl,by simp only;omega,by simp only;omega⟩,fun h=>(by cases h),fun h=>(by cases h)⟩
  ·rw [if_neg hc];have b:=h o w (by omega) (by omega) hw;have hn1:=b.n1;have hp1:=b.p1;have hn2:=b.n2;have hp2:=b.p2
   cases hb:(rec o w).2.2 with
   | true =>
    have e:Ca rec ns k os cs (rec o w)=(rec o w,false):=by
     cases os with
     | nil=>cases cs<;>rfl
     | cons o' os=>cases cs with
      | nil=>rfl
      | cons c' cs=>rw [Ca,if_pos hb]
    rw [e];exact ⟨hn1,hp1,fun h=>(by cases h),fun _ _=>⟨by simp only;omega,hp2⟩,fun h=>(by rw [hb] at h;cases h)⟩
   | false =>
    have i:=NW hk h os cs (rec o w) hb;have ho:=b.ok hb;have in1:=i.n1;have ip1:=i.p1;exact ⟨by omega,by omega,fun h=>(by have:=i.gave h;exact ⟨this.1,by omega,by omega⟩),fun h1 h2=>(by have:=i.bad h1 h2;exact ⟨by omega,by omega⟩),fun h=>(by have:=i.ok h;exact ⟨by omega,by omega⟩)⟩
theorem KG:∀ (f:Nat) (k:Int) (w:Wk),0≤k→w.2.2=false→g8 k w (El ns f k w)
 | 0,k,w,hk,hw=>⟨Int.le_refl _,Int.le_refl _,fun h=>(by cases h),by show w.1≤_;omega,by show w.2.1 - w.2.1≤w.1 - w.1+1;omega⟩
 | f+1,k,w,hk,hw=>by
  rw [El];split
  ·exact ⟨Int.le_refl _,Int.le_refl _,fun h=>(by cases h),by show w.1≤_;omega,by show w.2.1 - w.2.1≤w.1 - w.1+1;omega⟩
  ·have i:=NW (ns:=ns) (rec:=El ns f) hk (fun o w ho hok hw=>KG f o w ho hw) (Az ns k).2.2.2.1 (EW (Az ns k).1 (Az ns k).2.2.2.1.length) (w.1,if (Az ns k).1=12 then w.2.1+1 else w.2.1,w.2.2) hw;have hpt:w.2.1≤(if (Az ns k).1=12 then w.2.1+1 else w.2.1)∧(if (Az ns k).1=12 then w.2.1+1 else w.2.1)≤w.2.1+1:=by split<;>omega
   generalize (if (Az ns k).1=12 then w.2.1+1 else w.2.1)=q at *;simp only;generalize Ca (El ns f) ns k (Az ns k).2.2.2.1 (EW (Az ns k).1 (Az ns k).2.2.2.1.length) (w.1,q,w.2.2)=r at *;have i1:=i.n1;have i2:=i.p1;have i3:=i.gave;have i4:=i.bad;have i5:=i.ok;simp only at i1 i2 i3 i4 i5;split
   ·rename_i hg;have:=i3 hg;exact ⟨i1,by omega,fun h=>(by rw [this.1] at h;cases h),by omega,by omega⟩
   ·rename_i hg;have hg:r.2=false:=by simpa using hg
    cases hb:r.1.2.2 with
    | true =>
     have:=i4 hg hb;exact ⟨by simp only;omega,by simp only;omega,fun h=>(by cases h),by simp only;omega,by simp only;omega⟩
    | false =>
     have:=i5 hb;refine ⟨by simp only;omega,by simp only;omega,fun h=>?_,by simp only;omega,by simp only;omega⟩;simp only [Bool.false_or,bne_eq_false_iff_eq] at h;simp only;omega
end
theorem A5 {S cl} {x:Nd} (h:Z.R S cl x):∃ so:Sv,cl=[.int .i64 x.1,.int .i64 x.2.1,.string ⟨x.2.2.1.b.toArray⟩,.slice so.1 so.2.1 so.2.2]∧RSl S (Ar so) x.2.2.2.1∧Au x.1∧Au x.2.1∧x.2.2.1.b.length≤maxLen:=by
 obtain ⟨hl,h1,h2⟩:=h;obtain ⟨hl2,h3,h4⟩:=h2;obtain ⟨hl3,h5,h6⟩:=h4;obtain ⟨hl4,h7,h8⟩:=h6;obtain ⟨e1,i1⟩:=h1;obtain ⟨e2,i2⟩:=h3;obtain ⟨e3,i3⟩:=h5;obtain ⟨v,e4,h9⟩:=h7;obtain ⟨a,n,c,rfl⟩:=BQ h9;refine ⟨(a,n,c),?_,h9,i1,i2,i3⟩;apply ak ()
theorem Be {ns} {k:Nat} (h):Az ns (k:Int)=ns[k]:=by
 unfold Az;rw [Int.toNat_natCast,List.getD_eq_getElem?_getD,List.getElem?_eq_getElem h];rfl
theorem eA {rec ns k o c os cs w} (hw:w.2.2=false) (h:¬ (o < 0∨k≤o∨Ea (Az ns o).1≠c)):Ca rec ns k (o::os) (c::cs) w=Ca rec ns k os cs (rec o w):=by rw [Ca,if_neg (by rw [hw];decide),if_neg h]
theorem Mk {rec ns k o c os cs w} (hw:w.2.2=false) (h:o < 0∨k≤o∨Ea (Az ns o).1≠c):Ca rec ns k (o::os) (c::cs) w=((w.1,w.2.1,true),true):=by rw [Ca,if_neg (by rw [hw];decide),if_pos h]
abbrev jc (w:Wk):Value:=.agg #[.int .i64 w.1,.int .i64 w.2.1,.bool w.2.2]
abbrev i7 (S:Ad) (M:List J) (r:Wk) (v:Value) (w:World):Prop:=∃ S',S.Le S'∧v=jc r∧St S' M w
abbrev ZX (p:Pg) (f:Nat):Prop:=∀ {S M} (w:World) (si sn:Sv) (k:Nat) (wk:Wk),St S M w→Cm S si sn p→k < p.2.1.length→k+1≤f→wk.2.2=false→(0≤wk.1∧wk.1≤1000000)→(0≤wk.2.1∧wk.2.1≤wk.1+(1000000 - (k:Int))) →
  Ac prog 108 [Bo si sn p,.int .i64 (k:Int),jc wk] w (i7 S M (El p.2.1 f k wk))
theorem aH {rec ns k os cs w} (h:w.2.2=true):Ca rec ns k os cs w=(w,false):=by
 cases os with
 | nil=>cases cs<;>rfl
 | cons o os=>cases cs with
  | nil=>rfl
  | cons c cs=>rw [Ca,if_pos h]
theorem aG {rec ns k cs w}:Ca rec ns k [] cs w=(w,false):=by cases cs<;>rfl
theorem UK (p f) (ih:ZX p f):ZX p (f+1):=fun {S M} w si sn k wk V L hk hf hwb hw1 hw2=>by
 unfold Ac;obtain ⟨R,hR⟩:∃ R,El p.2.1 (f+1) k wk=R:=⟨_,rfl⟩
 rw [hR];rw [El,Be hk] at hR;obtain ⟨nx,pt,bd⟩:=wk;simp only at hwb hw1 hw2 hR;subst hwb;have hn:=L.n;have hln:=L.ln;have hi:=L.i;have hol:=L.lo _ (List.getElem_mem hk);have HP:=Lib.hid L;clear L;generalize hns:p.2.1=ns at *;obtain ⟨Xqq,hX⟩:∃ Xqq,ns[k]=Xqq:=⟨_,rfl⟩
 rw [hX] at hR hol;have HR:=Lib.hid hR;clear hR;go_enter func108,ntmps108;repeat' ((apply ZZ 0);first|(apply O ();go_step)|fail)
 refine wp_region_lit ?_;refine I5 (cs:=[.slice si.1 si.2.1 si.2.2,.slice sn.1 sn.2.1 sn.2.2,.int .i64 p.2.2.1,.int .i64 p.2.2.2.1]) V X rfl ?_;clear V;intro b3 w V;apply nW ();refine I5 (cs:=[.int .i64 nx,.int .i64 pt,.bool false]) V X rfl ?_;clear V;intro b5 w V;apply nW ();refine BF V Y ?_;clear V;intro b6 w V;apply nW ();repeat' ((apply ZZ 1);first|(apply O ();go_step)|fail)
 refine wp_region_lit ?_;repeat' (first|(apply O ();go_step)|apply sX ()|(apply sD ();intro cl hcl)|(apply sI ();intro v L)|(apply sA ();clear V;intro bk w V)|fail)
 obtain ⟨b7,rfl⟩:∃ b,b=bk:=⟨_,rfl⟩
 rw [hX] at hcl;clear hX;obtain ⟨so,rfl,ho,hI1,hI2,hI3⟩:=A5 hcl;clear hcl;rw [show Z.agg Nd=true from rfl];apply nW ();repeat' ((apply ZZ 2);first|(apply O ();go_step)|(apply sS ();clear V;intro w V)|fail)
 have cA:=fun {M} w (V:St S M w)=>er w V Xqq.1 Xqq.2.2.2.1.length (by omega)
 repeat' ((apply ZZ 3);first|(apply O ();go_step)|(apply kc ();refine sc (cA _ V) ?_;clear V;rintro v w ⟨S1,sa,hS1,rfl,ha,V⟩)|apply sX ()|fail)
 clear cA;have cC:=fun {M} w (V:St S1 M w)=>Pf w V Xqq.1
 replace ho:=ho.mono hS1;replace hn:=hn.mono hS1;replace hi:=hi.mono hS1;obtain ⟨z1,hz1⟩:∃ z,(Ea Xqq.1 == 0)=z:=⟨_,rfl⟩
 generalize hW:EW Xqq.1 Xqq.2.2.2.1.length=W at *;clear hW;obtain ⟨z2,hz2⟩:∃ z,((W.length:Int) != (Xqq.2.2.2.1.length:Int))=z:=⟨_,rfl⟩
 obtain ⟨z3,hz3⟩:∃ z,(Xqq.1 == 12)=z:=⟨_,rfl⟩
 obtain ⟨z4,hz4⟩:∃ z,(Xqq.2.1 != pt)=z:=⟨_,rfl⟩
 have hcond:(Ea Xqq.1=0∨W.length≠Xqq.2.2.2.1.length∨(Xqq.1=12∧Xqq.2.1≠pt))↔(z1 || (z2 || (z3 && z4)))=true:=by
  rw [← hz1,← hz2,← hz3,← hz4];simp only [Bool.or_eq_true,Bool.and_eq_true,beq_iff_eq,bne_iff_ne,ne_eq];constructor
  ·rintro (h|h|h)
   ·exact .inl h
   ·exact .inr (.inl (by omega))
   ·exact .inr (.inr h)
  ·rintro (h|h|h)
   ·exact .inl h
   ·exact .inr (.inl (by omega))
   ·exact .inr (.inr h)
 have h12:(Xqq.1=12)↔z3=true:=by rw [← hz3];simp only [beq_iff_eq]
 simp only [hcond] at HR;simp only [h12] at HR;clear hcond h12;have kz:(z1=true)∨(z1=false∧z2=true)∨(z1=false∧z2=false∧z3=true∧z4=true)∨(z1=false∧z2=false∧z3=true∧z4=false)∨(z1=false∧z2=false∧z3=false):=by cases z1<;>cases z2<;>cases z3<;>cases z4<;>simp
 rcases kz with rfl|⟨rfl,rfl⟩|⟨rfl,rfl,rfl,rfl⟩|⟨rfl,rfl,rfl,rfl⟩|⟨rfl,rfl,rfl⟩
 ·replace HR:=Lib.hid (HR.out.symm.trans (if_pos (by simp)));repeat' (first|go_skip|apply sK ()|(apply O ();go_step)|(apply kc ();refine sc (cC _ V) ?_;clear V;rintro v w ⟨rfl,V⟩)|apply sX ()|(apply sS ();clear V;intro w V)|fail)
  apply gR ()
 ·replace HR:=Lib.hid (HR.out.symm.trans (if_pos (by simp)));repeat' (first|go_skip|apply sK ()|apply sG ()|(apply O ();go_step)|(apply kc ();refine sc (cC _ V) ?_;clear V;rintro v w ⟨rfl,V⟩)|apply sX ()|(apply sS ();clear V;intro w V)|fail)
  apply gR ()
 ·replace HR:=Lib.hid (HR.out.symm.trans (if_pos (by simp)));repeat' (first|apply sK ()|apply sG ()|(apply O ();go_step)|(apply kc ();refine sc (cC _ V) ?_;clear V;rintro v w ⟨rfl,V⟩)|apply sX ()|(apply sS ();clear V;intro w V)|fail)
  apply gR ()
 ·replace HR:=Lib.hid ((if_neg (by simp)).symm.trans HR.out);have hq:(0≤(pt+1)∧(pt+1)≤nx+(1000000 - (k:Int))+1):=by omega
  have hw9:(if true=true then pt+1 else pt)=(pt+1):=by simp
  rw [hw9] at HR;clear hw9;repeat' ((apply ZZ 8);first|apply sK ()|apply sG ()|(apply O ();go_step)|(apply kc ();refine sc (cC _ V) ?_;clear V;rintro v w ⟨rfl,V⟩)|apply sX ()|(apply sS ();clear V;intro w V)|fail)
  generalize (pt+1)=q at *;apply b2 ()
 ·replace HR:=Lib.hid ((if_neg (by simp)).symm.trans HR.out);have hq:(0≤pt∧pt≤nx+(1000000 - (k:Int))+1):=by omega
  have hw9:(if false=true then pt+1 else pt)=pt:=by simp
  rw [hw9] at HR;clear hw9;repeat' ((apply ZZ 8);first|go_skip|apply sK ()|apply sG ()|(apply O ();go_step)|(apply kc ();refine sc (cC _ V) ?_;clear V;rintro v w ⟨rfl,V⟩)|apply sX ()|fail)
  generalize hqq:pt=q at *;clear hqq;apply b2 ()
theorem PA (p:Pg):∀ f,ZX p f
 | 0=>fun w si sn k wk _ _ _ hf _ _ _=>absurd hf (by omega)
 | f+1=>UK p f (PA p f)
end Go.Proofs.YtmmbidoldegemaaGreatDoor
