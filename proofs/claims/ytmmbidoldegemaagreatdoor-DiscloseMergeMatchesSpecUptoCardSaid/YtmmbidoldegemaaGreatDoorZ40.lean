/- Part 41 of the proof that the law of the last part holds; no conditions. -/
import Derived.Test.YtmmbidoldegemaaGreatDoorZ20
import Derived.Test.YtmmbidoldegemaaGreatDoorZ39
set_option linter.unusedSimpArgs false
set_option linter.unusedVariables false
set_option maxRecDepth 8000
set_option maxHeartbeats 8000000
namespace Go.Proofs.YtmmbidoldegemaaGreatDoor
open Go.RowKit Go.Sl
def BM (p:Pn):Int:=p.2.2.1
def A4 (ps:List Pn) (k:Int×Int):List Int:=(ps.filter fun p=>decide (kP p=k)).map BM
def Fn (a:List Pn):List Pn→List Pn→Option (List Pn)
 | [],out=>some out
 | p::r,out=>if (A4 a (kP p)).any (fun n=>decide (n≠BM p))=true then none else Fn a r (if A4 a (kP p)=[] then out++[p] else out)
def D9:Br:=(⟨[0,0,0,0,0,0,0,0,0,0,0,0,0,0,0,0]⟩,[],[],())
def Dp (x y:Br):Br×Int :=
 if x.1=y.1∧x.2.1=y.2.1 then
  match Fn x.2.2.1 y.2.2.1 x.2.2.1 with
  | none=>(D9,15)
  | some out=>((x.1,x.2.1,Srt.sortR kP out,()),0)
 else (D9,15)
theorem Pe (a:List Pn):∀ (b out r:List Pn),Fn a b out=some r→r.length≤out.length+b.length
 | [],out,r,h=>by cases h;simp
 | p::b,out,r,h=>by
  rw [Fn] at h;split at h
  ·cases h
  ·have:=Pe a b _ r h;rw [List.length_cons];split at this
   ·rw [List.length_append] at this;simp only [List.length_cons,List.length_nil] at this;omega
   ·omega
theorem DZ (ps:List Pn) (p:Pn) (k:Int×Int):A4 (ps++[p]) k=if kP p=k then A4 ps k++[BM p] else A4 ps k:=by
 unfold A4;rw [List.filter_append];by_cases h:kP p=k
 ·rw [if_pos h,List.filter_cons_of_pos (by simpa using h),List.filter_nil,List.map_append];rfl
 ·rw [if_neg h,List.filter_cons_of_neg (by simpa using h),List.filter_nil,List.append_nil]
theorem NG (ps:List Pn) (k:Int×Int):(A4 ps k).length≤ps.length:=by
 unfold A4;rw [List.length_map];exact List.length_filter_le _ _
structure BD where
 k:Int×Int
 ad:Option Addr
 cap:Nat
 xs:List Int
abbrev BD.v (e:BD):Value:=.slice e.ad e.xs.length e.cap
abbrev BC (e:BD):Chunk:=.sl e.v 3 1 e.xs.length (cF Bf e.xs)
def Ew (es:List BD):List ((Int×Int)×Value):=es.map fun e=>(e.k,e.v)
structure GY (es:List BD) (ps:List Pn):Prop where
 nd:(es.map (·.k)).Nodup
 xs:∀ e∈es,e.xs=A4 ps e.k∧e.xs≠[]
 al:∀ k,A4 ps k≠[]→∃ e∈es,e.k=k
theorem bN:GY [] []:=⟨List.nodup_nil,fun e h=>(by cases h),fun k h=>(h rfl).elim⟩
theorem XK {es:List BD} {k:Int×Int} (h:∀ e∈es,e.k≠k):Bu (Ew es) k=none:=by
 induction es with
 | nil=>rfl
 | cons e es ih =>
  show Bu ((e.k,e.v)::Ew es) k=none;rw [CP,if_neg (fun x=>h e List.mem_cons_self x.symm)];exact ih fun e' he=>h e' (List.mem_cons_of_mem _ he)
theorem GY.no {es:List BD} {ps:List Pn} {k:Int×Int} (h:GY es ps) (hk:A4 ps k=[]):Bu (Ew es) k=none:=by
 refine XK fun e he ek=>?_
 have:=h.xs e he;rw [ek,hk] at this;exact this.2 this.1
theorem Rf (a b:List BD):Ew (a++b)=Ew a++Ew b:=by unfold Ew;rw [List.map_append]
theorem U4:∀ {l1:List BD} {e:BD} {l2:List BD},(∀ x∈l1,x.k≠e.k)→Bu (Ew (l1++e::l2)) e.k=some e.v∧∀ v,Ec (Ew (l1++e::l2)) e.k v=Ew l1++(e.k,v)::Ew l2
 | [],e,l2,_=>by
  constructor
  ·show Bu ((e.k,e.v)::Ew l2) e.k=_;rw [CP,if_pos rfl]
  ·intro v;show Ec ((e.k,e.v)::Ew l2) e.k v=_;rw [Ec,if_pos rfl];rfl
 | x::l1,e,l2,h=>by
  have ih:=U4 (l1:=l1) (e:=e) (l2:=l2) fun y hy=>h y (List.mem_cons_of_mem _ hy)
  have hx:=h x List.mem_cons_self;constructor
  ·show Bu ((x.k,x.v)::Ew (l1++e::l2)) e.k=_;rw [CP,if_neg (fun y=>hx y.symm),ih.1]
  ·intro v;show Ec ((x.k,x.v)::Ew (l1++e::l2)) e.k v=_;rw [Ec,if_neg (fun y=>hx y.symm),ih.2 v];rfl
theorem GY.yes {es:List BD} {ps:List Pn} {k:Int×Int} (h:GY es ps) (hk:A4 ps k≠[]) :
  ∃ l1 e l2,es=l1++e::l2∧e.k=k∧e.xs=A4 ps k∧Bu (Ew es) k=some e.v∧∀ v,Ec (Ew es) k v=Ew l1++(k,v)::Ew l2:=by
 obtain ⟨e,he,ek⟩:=h.al k hk;obtain ⟨l1,l2,rfl⟩:=List.append_of_mem he;have hn:=h.nd;rw [List.map_append,List.map_cons,List.nodup_append] at hn;have hl:∀ x∈l1,x.k≠e.k:=fun x hx ex=>hn.2.2 x.k (List.mem_map_of_mem hx) e.k List.mem_cons_self ex
 have:=U4 (l1:=l1) (e:=e) (l2:=l2) hl;rw [ek] at this;exact ⟨l1,e,l2,rfl,ek,by rw [(h.xs e he).1,ek],this.1,this.2⟩
theorem GY.new {es:List BD} {ps:List Pn} {p:Pn} (h:GY es ps) (hk:A4 ps (kP p)=[]) (ad:Option Addr) (cap:Nat):GY (es++[⟨kP p,ad,cap,[BM p]⟩]) (ps++[p]):=by
 have hne:∀ e∈es,e.k≠kP p:=fun e he ek=>by
  have:=h.xs e he;rw [ek,hk] at this;exact this.2 this.1
 refine ⟨?_,fun e he=>?_,fun k hk2=>?_⟩
 ·rw [List.map_append,List.nodup_append];refine ⟨h.nd,by simp,fun a ha b hb=>?_⟩;obtain ⟨e,he,rfl⟩:=List.mem_map.1 ha;simp only [List.map_cons,List.map_nil,List.mem_singleton] at hb;subst hb;exact hne e he
 ·rcases List.mem_append.1 he with he|he
  ·have:=h.xs e he;rw [DZ,if_neg (fun x=>hne e he x.symm)];exact this
  ·obtain rfl:=List.mem_singleton.1 he;show [BM p]=A4 (ps++[p]) (kP p)∧[BM p]≠[];rw [DZ,if_pos rfl,hk];exact ⟨rfl,by simp⟩
 ·rw [DZ] at hk2;by_cases hp:kP p=k
  ·exact ⟨_,List.mem_append_right _ List.mem_cons_self,hp⟩
  ·rw [if_neg hp] at hk2;obtain ⟨e,he,ek⟩:=h.al k hk2;exact ⟨e,List.mem_append_left _ he,ek⟩
theorem GY.old {l1 l2:List BD} {e:BD} {ps:List Pn} {p:Pn} (h:GY (l1++e::l2) ps) (hk:e.k=kP p) (ad:Option Addr) (cap:Nat):GY (l1++⟨kP p,ad,cap,e.xs++[BM p]⟩::l2) (ps++[p]):=by
 have hn:=h.nd;have hn':=hn;rw [List.map_append,List.map_cons,List.nodup_append] at hn';obtain ⟨n1,n2,n3⟩:=hn';have n4:=(List.nodup_cons.1 n2).1
 have hne:∀ x,x∈l1∨x∈l2→kP p≠x.k:=fun x hx ex=>by
  rcases hx with hx|hx
  ·exact n3 x.k (List.mem_map_of_mem hx) e.k List.mem_cons_self (by rw [hk,ex])
  ·exact n4 (List.mem_map.2 ⟨x,hx,by rw [hk,ex]⟩)
 refine ⟨?_,fun x hx=>?_,fun k hk2=>?_⟩
 ·rw [List.map_append,List.map_cons,← hk];rw [List.map_append,List.map_cons] at hn;exact hn
 ·rcases List.mem_append.1 hx with hx|hx
  ·rw [DZ,if_neg (hne x (.inl hx))];exact h.xs x (List.mem_append_left _ hx)
  ·rcases List.mem_cons.1 hx with rfl|hx
   ·show e.xs++[BM p]=A4 (ps++[p]) (kP p)∧_;rw [DZ,if_pos rfl,(h.xs e (List.mem_append_right _ List.mem_cons_self)).1,hk];exact ⟨rfl,by simp⟩
   ·rw [DZ,if_neg (hne x (.inr hx))];exact h.xs x (List.mem_append_right _ (List.mem_cons_of_mem _ hx))
 ·rw [DZ] at hk2;by_cases hp:kP p=k
  ·exact ⟨_,List.mem_append_right _ List.mem_cons_self,hp⟩
  ·rw [if_neg hp] at hk2;obtain ⟨x,hx,ek⟩:=h.al k hk2;rcases List.mem_append.1 hx with hx|hx
   ·exact ⟨x,List.mem_append_left _ hx,ek⟩
   ·rcases List.mem_cons.1 hx with rfl|hx
    ·exact (hp (hk.symm.trans ek)).elim
    ·exact ⟨x,List.mem_append_right _ (List.mem_cons_of_mem _ hx),ek⟩
theorem KH {α:Type} [Rep α] {S:Ac} {v:Value} {xs:List α} (h:RSl S v xs):∃ a n c,v=.slice a n c:=by
 apply gu ()
theorem dt {S:Ac} {v:Value} {xs:List Pn} (h:RSl S v xs):∀ x∈xs,Au (BM x):=by
 intro x hx;obtain ⟨i,hi,rfl⟩:=List.getElem_of_mem hx;obtain ⟨cs,hcs⟩:=KI h hi;exact (BF hcs).choose_spec.2.2.2.2
theorem OT {S:Ac}:∀ {xs:List Int},(∀ x∈xs,Au x)→RL S (cF Bf xs) xs
 | [],_=>RL.nil
 | x::xs,h=>Md (h x List.mem_cons_self) (OT fun y hy=>h y (List.mem_cons_of_mem _ hy))
theorem Nr {S:Ac} {w:World}:∀ {es:List BD} {M:List Chunk},St S (es.map BC++M) w→(∀ e∈es,∀ x∈e.xs,Au x)→∃ S',S.Le S'∧(∀ e∈es,RSl S' e.v e.xs)∧St S' M w
 | [],M,h,_=>⟨S,Ac.Le.refl S,fun e he=>(by cases he),h⟩
 | e::es,M,h,hi=>by
  have h1:St S (es.map BC++(BC e::M)) w:=h.perm (by
   rw [List.map_cons,List.cons_append];exact (List.perm_middle).symm)
  obtain ⟨S1,hS1,hr,h2⟩:=Nr h1 fun x hx=>hi x (List.mem_cons_of_mem _ hx)
  obtain ⟨S2,hS2,h3,hx⟩:=St.freeze (α:=Int) h2 (OT (hi e List.mem_cons_self)) rfl;refine ⟨S2,hS1.trans hS2,fun x hx2=>?_,h3⟩;rcases List.mem_cons.1 hx2 with rfl|hx2
  ·exact hx
  ·exact (hr x hx2).mono hS2
theorem dZ {S:Ac} {cs:List Value} {y:Hd} (hR:Rep.R S cs y):Fo y:=⟨hR.2.1.1,hR.2.2.2.1.1,hR.2.2.2.2.2.1.2,hR.2.2.2.2.2.2.2.1.1,hR.2.2.2.2.2.2.2.2.2.1.1,hR.2.2.2.2.2.2.2.2.2.2.2.1.2⟩
theorem Ia {S:Ac} {v:Value} {xs:List Hd} (h:RSl S v xs):∀ x∈xs,Fo x:=by
 intro x hx;obtain ⟨i,hi,rfl⟩:=List.getElem_of_mem hx;rcases h with ⟨ad,cap,rfl,rfl,_⟩|⟨b,o,cap,c,T,fz,rfl,_,_,_,hR⟩
 ·simp at hi
 ·exact dZ (hR.2 i _ (List.getElem?_eq_getElem hi))
set_option maxRecDepth 20000 in
theorem PI {S M} (w:World) (hst:St S M w) (va vb:Value) (a b:List Hd) (ha:RSl S va a) (hb:RSl S vb b) (hm:a.length≤1048576) :
  Ad Tryz.prog 22 [va,vb] w fun v w'=>v=.bool (decide (a=b))∧St S M w':=by
 unfold Ad;have oa:=Ia ha;have ob:=Ia hb;obtain ⟨R,hR⟩:∃ R,decide (a=b)=R:=⟨_,rfl⟩
 rw [hR];have HR:=Lib.hid hR;clear hR;by_cases hl:a.length=b.length
 ·have HL:=Lib.hid hl;have hbl:b.length≤1048576:=by omega
  have hz:(((a.length:Nat):Int) != ((b.length:Nat):Int))=false:=bne_eq_false_iff_eq.2 (by omega);have hle1:a.length≤b.length:=by omega
  clear hl;go_enter Tryz.func22,Tryz.ntmps22;repeat' (first|apply sK ()|(apply gK ();go_step)|apply sY ()|fail)
  go_loopw [5,13] (fun _ u13 wr=>∃ i:Nat,i≤a.length∧u13=.int .i64 (i:Int)∧Hid (a.take i=b.take i)∧St S M wr) (fun _ v _=>a.length - (intOf v).toNat)
  case atStart=>exact ⟨0,Nat.zero_le _,rfl,Lib.hid rfl,hst⟩
  case round =>
   clear hst;obtain ⟨i,hi,rfl,HT,hst⟩:=hrel;by_cases hlt:i < a.length
   ·have hltb:i < b.length:=by omega
    have ka:=oa _ (List.getElem_mem hlt);have kb:=ob _ (List.getElem_mem hltb);by_cases he:a[i]=b[i]
    ·have hdc:decide (a[i]=b[i])=true:=decide_eq_true he;have HN:Hid (a.take (i+1)=b.take (i+1)):=Lib.hid (by rw [List.take_succ_eq_append_getElem hlt,List.take_succ_eq_append_getElem hltb,HT.out,he]);clear he;repeat' ((apply Z6 ());first|(apply gK ();go_step)|fail)
     refine AF hst kr ?_;clear hst;intro ops;(try refine nY ?_);refine td 0 rfl ?_;refine td 1 rfl ?_;refine tx 2 rfl (Ao Ab Ak rfl Aa Aa Af Af) ?_;rintro v hp;replace hp:=iN hp;refine tq 3 rfl (by exact Bp Ab Ak Aa Aa rfl) ?_;refine td 4 rfl ?_;refine td 5 rfl ?_;refine tx 6 rfl (Ao Ab Ak rfl Aa Aa Af Af) ?_;rintro v hp;replace hp:=iN hp;refine tq 7 rfl (by exact Bp Ab Ak Aa Aa rfl) ?_;refine tq 8 rfl (Dc rfl rfl (CS ka) (CS kb) Aa Aa Aa hdc) ?_;refine AK kr ?_;clear ops;intro w hst;repeat' (first|(apply gK ();go_step)|fail)
     apply VX ()
    ·have hdc:decide (a[i]=b[i])=false:=decide_eq_false he
     have HN:Hid (false=R):=Lib.hid (by
      rw [← HR.out]
      symm
      refine decide_eq_false fun e=>he ?_
      subst e;rfl)
     clear he;repeat' ((apply Z6 ());first|(apply gK ();go_step)|fail)
     refine AF hst kr ?_;clear hst;intro ops;(try refine nY ?_);refine td 0 rfl ?_;refine td 1 rfl ?_;refine tx 2 rfl (Ao Ab Ak rfl Aa Aa Af Af) ?_;rintro v hp;replace hp:=iN hp;refine tq 3 rfl (by exact Bp Ab Ak Aa Aa rfl) ?_;refine td 4 rfl ?_;refine td 5 rfl ?_;refine tx 6 rfl (Ao Ab Ak rfl Aa Aa Af Af) ?_;rintro v hp;replace hp:=iN hp;apply g8 ()
   ·have HN:Hid (true=R):=Lib.hid (by
     have hll:=HL.out;have:=HT.out;rw [List.take_of_length_le (by omega),List.take_of_length_le (by omega)] at this;rw [← HR.out,decide_eq_true this])
    repeat' (first|(apply gK ();go_step)|fail)
    go_ret;exact ⟨_,rfl,by rw [← HN.out];rfl,hst⟩
 ·have hz:(((a.length:Nat):Int) != ((b.length:Nat):Int))=true:=bne_iff_ne.2 (by omega);have HN:Hid (false=R):=Lib.hid (by rw [← HR.out];exact (decide_eq_false fun e=>hl (by rw [e])).symm);clear hl;go_enter Tryz.func22,Tryz.ntmps22;apply gD ()
def Dr (h:Hd):Bool:=decide (h.2.2.1 < 0) || decide (h.2.2.1 > 8)
set_option maxRecDepth 20000 in
theorem XN {S M} (w:World) (hst:St S M w) (h:Hd) (hk:Fo h) :
  Ad Tryz.prog 45 [Vj h] w fun v w'=>v=.bool (Dr h)∧St S M w':=by
 unfold Ad;unfold Dr;obtain ⟨z1,hz1⟩:∃ z,decide (h.2.2.1 < 0)=z:=⟨_,rfl⟩
 obtain ⟨z2,hz2⟩:∃ z,decide (h.2.2.1 > 8)=z:=⟨_,rfl⟩
 rw [hz1,hz2];go_enter Tryz.func45,Tryz.ntmps45;repeat' ((apply Z1 ());first|(apply gK ();go_step)|(apply sC ();clear hst;intro bx w hst)|fail)
 obtain ⟨S1,hS1,hst1,hp⟩:=AC (α:=Hd) hst (CS hk) (Rep.len (CS (S:=S) hk));clear hst;have hst:=hst1;clear hst1;generalize Value.pointer (some ⟨_,0,none⟩)=pH at hp
 cases z1 with
 | true =>
  repeat' (first|go_skip|apply sK ()|(apply gK ();go_step)|(with_reducible refine kL ?_;refine An hst (Am Ab Ak Aa) ?_;rintro v ⟨rfl,hI⟩<;>(try refine nY ?_))|(apply sJ ();intro v hp)|fail)
  go_ret;exact ⟨_,rfl,rfl,St.weaken hS1 hst⟩
 | false =>
  repeat' (first|apply sK ()|apply sG ()|(apply gK ();go_step)|(with_reducible refine kL ?_;refine An hst (Am Ab Ak Aa) ?_;rintro v ⟨rfl,hI⟩<;>(try refine nY ?_))|(apply sJ ();intro v hp)|fail)
  go_ret;exact ⟨_,rfl,rfl,St.weaken hS1 hst⟩
def IR (p:Hd→Bool) (xs:List Hd):Int:=match xs.findIdx? p with|some i=>i|none=>-1
theorem aw (p:Hd→Bool) (xs:List Hd):decide (IR p xs≥0)=xs.any p:=by
 unfold IR
 cases hf:xs.findIdx? p with
 | none =>
  rw [List.findIdx?_eq_none_iff] at hf;have:xs.any p=false:=by rw [List.any_eq_false];intro x hx;simp [hf x hx]
  rw [this];rfl
 | some i =>
  rw [List.findIdx?_eq_some_iff_getElem] at hf;obtain ⟨h,hp,_⟩:=hf;have:xs.any p=true:=List.any_eq_true.2 ⟨_,List.getElem_mem h,hp⟩;rw [this];exact decide_eq_true (by simp)
theorem Ve {p:Hd→Bool} {xs:List Hd} {k:Nat} (hk:k < xs.length) (hn:(xs.take k).any p=false) (hp:p xs[k]=true):IR p xs=k:=by
 have:xs.findIdx? p=some k:=by
  rw [List.findIdx?_eq_some_iff_getElem];refine ⟨hk,hp,fun j hj=>?_⟩;rw [List.any_eq_false] at hn;have:=hn xs[j] (by rw [List.mem_take_iff_getElem];exact ⟨j,by omega,rfl⟩)
  simpa using this
 simp [IR,this]
theorem Vf {p:Hd→Bool} {xs:List Hd} (hn:xs.any p=false):IR p xs = -1:=by
 have:xs.findIdx? p=none:=by
  rw [List.findIdx?_eq_none_iff];intro x hx;rw [List.any_eq_false] at hn
  simpa using hn x hx
 simp [IR,this]
theorem V5 (q:Hd→Bool) (xs:List Hd) {i:Nat} (h:i < xs.length):(xs.take (i+1)).any q=((xs.take i).any q || q xs[i]):=by
 rw [List.take_succ_eq_append_getElem h,List.any_append];simp
set_option maxRecDepth 20000 in
theorem XZ {S M} (w:World) (hst:St S M w) (vs:Value) (xs:List Hd) (hxs:RSl S vs xs) (hm:xs.length≤1048576) :
  Ad Tryz.prog 82 [vs,.func (.func 45) #[] #[]] w fun v w'=>v=.int .i64 (IR Dr xs)∧St S M w':=by
 unfold Ad;have ok:=Ia hxs;obtain ⟨R,hR⟩:∃ R,IR Dr xs=R:=⟨_,rfl⟩
 rw [hR];have HR:=Lib.hid hR;clear hR;go_enter Tryz.func82,Tryz.ntmps82;repeat' (first|(apply gK ();go_step)|apply sY ()|fail)
 go_loopw [5,8] (fun _ u8 wr=>∃ i:Nat,i≤xs.length∧u8=.int .i64 (i:Int)∧Hid ((xs.take i).any Dr=false)∧St S M wr) (fun _ v _=>xs.length - (intOf v).toNat)
 case atStart=>exact ⟨0,Nat.zero_le _,rfl,Lib.hid rfl,hst⟩
 case round =>
  clear hst;obtain ⟨i,hi,rfl,HA,hst⟩:=hrel;by_cases hlt:i < xs.length
  ·have ki:=ok _ (List.getElem_mem hlt);have hnx:=V5 Dr xs hlt;rw [HA.out,Bool.false_or] at hnx;have cK:=fun {M:List Chunk} (w:World) (hst:St S M w)=>XN w hst xs[i] ki
   cases hz:Dr xs[i] with
   | true =>
    have HN:Hid (((i:Nat):Int)=R):=Lib.hid (by rw [← HR.out,Ve hlt HA.out hz]);rw [hz] at cK;clear hnx hz;repeat' (first|(apply gK ();go_step)|(with_reducible refine kC ?_;refine DU (cK _ hst) rfl Aa rfl rfl ?_;clear hst;rintro v w ⟨rfl,hst⟩<;>(try refine nY ?_)<;>(try replace hst:=nH hst))|apply sP ()|(apply sJ ();intro v hp)|fail)
    go_ret;exact ⟨_,rfl,by rw [← HN.out];rfl,hst⟩
   | false =>
    rw [hz] at cK hnx;have HN:=Lib.hid hnx;clear hnx hz;repeat' (first|(apply gK ();go_step)|(with_reducible refine kC ?_;refine DU (cK _ hst) rfl Aa rfl rfl ?_;clear hst;rintro v w ⟨rfl,hst⟩<;>(try refine nY ?_)<;>(try replace hst:=nH hst))|apply sP ()|(apply sJ ();intro v hp)|fail)
    apply VX ()
  ·have HN:Hid ((-1:Int)=R):=Lib.hid (by
    have:=HA.out;rw [List.take_of_length_le (by omega)] at this;rw [← HR.out,Vf this])
   repeat' (first|(apply gK ();go_step)|fail)
   go_ret;exact ⟨_,rfl,by rw [← HN.out];rfl,hst⟩
set_option maxRecDepth 20000 in
theorem Qx {S M} (w:World) (hst:St S M w) (vs:Value) (xs:List Hd) (hxs:RSl S vs xs) (hm:xs.length≤1048576) :
  Ad Tryz.prog 44 [vs,.func (.func 45) #[] #[]] w fun v w'=>v=.bool (xs.any Dr)∧St S M w':=by
 unfold Ad;have cI:=fun {M:List Chunk} (w:World) (hst:St S M w)=>XZ w hst vs xs hxs hm
 obtain ⟨z,hz⟩:∃ z,decide (IR Dr xs≥0)=z:=⟨_,rfl⟩
 rw [← aw,hz];generalize IR Dr xs=q at *;go_enter Tryz.func44,Tryz.ntmps44;repeat' (first|apply sK ()|(apply gK ();go_step)|(apply kc ();refine sc (cI _ hst) ?_;clear hst;rintro v w ⟨rfl,hst⟩)|fail)
 go_ret;exact ⟨_,rfl,by rw [← hz];rfl,hst⟩
set_option maxRecDepth 20000 in
theorem ZS {S M} (w:World) (hst:St S M w) (n:Nat) (hn:n≤8) :
  Ad Tryz.prog 127 [.int .u64 1,.int .u64 (n:Int)] w fun v w'=>v=.tuple #[.int .u64 0,.int .u64 (n:Int)]∧St S M w':=by
 unfold Ad;obtain rfl|rfl|rfl|rfl|rfl|rfl|rfl|rfl|rfl:n=0∨n=1∨n=2∨n=3∨n=4∨n=5∨n=6∨n=7∨n=8:=by omega
 all_goals
  go_enter Tryz.func127,Tryz.ntmps127;repeat' (first|(apply gK ();go_step)|fail)
  go_ret2
  exact ⟨_,rfl,rfl,hst⟩
set_option maxRecDepth 20000 in
theorem fM {S M} (w:World) (hst:St S M w) (n:Nat) (hn:n≤8) :
  Ad Tryz.prog 85 [.int .u64 1,.int .u64 (n:Int)] w fun v w'=>v=.tuple #[.int .u64 0,.int .u64 (n:Int)]∧St S M w':=by
 unfold Ad;have cM:=fun {M:List Chunk} (w:World) (hst:St S M w)=>ZS w hst n hn
 go_enter Tryz.func85,Tryz.ntmps85;repeat' (first|(apply gK ();go_step)|(apply kc ();refine sc (cM _ hst) ?_;clear hst;rintro v w ⟨rfl,hst⟩)|fail)
 go_ret2
 exact ⟨_,rfl,rfl,hst⟩
def GJ (n c:Nat):List Value:=List.replicate c (Value.int .i64 (-1))++List.replicate (n - c) (Value.int .i64 0)
theorem WW {n c m:Nat} (hc:c+m≤n) (hm:m≤c):(GJ n c).take (c * 1)++(GJ n c).take (m * 1)++(GJ n c).drop (c * 1+m * 1)=GJ n (c+m):=by
 unfold GJ;simp only [Nat.mul_one];have e1:(List.replicate c (Value.int .i64 (-1))++List.replicate (n - c) (Value.int .i64 0)).take c=List.replicate c (Value.int .i64 (-1)):=List.take_left' (by simp)
 have e2:(List.replicate c (Value.int .i64 (-1))++List.replicate (n - c) (Value.int .i64 0)).take m=List.replicate m (Value.int .i64 (-1)):=by
  rw [List.take_append_of_le_length (by simp;omega),List.take_replicate,Nat.min_eq_left hm]
 have e3:(List.replicate c (Value.int .i64 (-1))++List.replicate (n - c) (Value.int .i64 0)).drop (c+m)=List.replicate (n - (c+m)) (Value.int .i64 0):=by
  rw [List.drop_append,List.drop_of_length_le (by simp),List.nil_append,List.length_replicate,List.drop_replicate]
  congr 1;omega
 rw [e1,e2,e3,List.replicate_append_replicate]
theorem Zq (n:Nat):GJ n n=cF Bf (List.replicate n (-1)):=by
 unfold GJ;rw [Nat.sub_self,List.replicate_zero,List.append_nil]
 induction n with
 | zero=>rfl
 | succ n ih=>rw [List.replicate_succ,List.replicate_succ];show _::_=Value.int .i64 (-1)::cF Bf (List.replicate n (-1));rw [ih]
theorem Zp (n c:Nat):∀ a∈GJ n c,a.oneCell'=true:=by
 intro a ha;unfold GJ at ha;rcases List.mem_append.1 ha with ha|ha
 ·rw [List.eq_of_mem_replicate ha];rfl
 ·rw [List.eq_of_mem_replicate ha];rfl
theorem WV (n:Nat):(List.replicate n ([.int .i64 0]:List Value)).flatten=GJ n 0:=by
 unfold GJ;rw [List.replicate_zero,List.nil_append,Nat.sub_zero]
 induction n with
 | zero=>rfl
 | succ n ih=>rw [List.replicate_succ,List.replicate_succ,List.flatten_cons,ih];rfl
theorem Uv {n:Nat} (h:1≤n):([.int .i64 (-1)]:List Value)++(GJ n 0).drop (1 * 1)=GJ n 1:=by
 unfold GJ;rw [List.replicate_zero,List.nil_append,Nat.sub_zero,List.drop_replicate];rfl
theorem fF {S:Ac} {c:List Value} (h:RL S c ([-1]:List Int)):c=[.int .i64 (-1)]:=by
 have h1:=h.2 0 (-1) rfl;have hl:c.length=1:=h.1
 match c,hl with
 | [a],_=>exact h1.1
theorem Zo {P:Program} {ops:Array Oper} {rest:List Oper} {Q:Exit→Act→World→Prop} {l:List Value} {D:List Deferred} {w:World} {ty:TypeId} {pos:String} {af:Array Edge} {S:Ac} {M:List Chunk} {d:Tmp} {x y:Operand} {u:Value} {t tx E e':TypeId} {agg:Bool} {z cap:Nat} {ad:Option Addr} {zero:List Value} {bb:Nat} {xs:List Int}
  (hst:St S M w) (hx:Ai l x=.slice ad 0 cap) (hy:Ai l y=u) (hu:RSl S u xs) (hT:SlT P t E) (hE:Ty P E agg z zero bb) (hU:SlT P tx e')
  (h:wpList P ops Q rest ⟨(l.set d (.int .i64 0)).toArray,D⟩ w) :
  wpList P ops Q (⟨some d,.call { callee:=.builtin .copy,args:=#[x,y],argTypes:=#[t,tx] },ty,pos,af,none⟩::rest) ⟨l.toArray,D⟩ w:=by
 obtain ⟨i,hi,hiz,his,hib⟩:=hE.run_bytes;refine Bw (v:=.int .i64 0) (w':=w) ?_ h
 have hl:∃ a n c,u=.slice a n c:=by
  rcases hu with ⟨ad,cap,rfl,_⟩|⟨b,o,cap,c,T,fz,rfl,_⟩
  ·exact ⟨_,_,_,rfl⟩
  ·exact ⟨_,_,_,rfl⟩
 obtain ⟨a,n,c,rfl⟩:=hl
 have hf:(Builtin.firstCells z 0 (.slice a n c)).run P w=.ok #[] w:=by
  cases a with
  | none=>rfl
  | some a=>exact run_firstCells_some w z 0 a n c [] (by simp) (fun j v hj=>by simp at hj)
 have hmin:Nat.min n 0=0:=Nat.min_zero n
 cases ad with
 | none=>simp [execOp,resolve,invoke,builtin,hx,hy,goInt,Builtin.copy_,run_underlying hT.u,sizeOf,typeInfo,hi,his,Builtin.lenOf,hmin,hf]
 | some q=>simp [execOp,resolve,invoke,builtin,hx,hy,goInt,Builtin.copy_,run_underlying hT.u,sizeOf,typeInfo,hi,his,Builtin.lenOf,hmin,hf,storeCells]
set_option maxRecDepth 20000 in
theorem W8 {S M} (w:World) (hst:St S M w) (vx:Value) (hx:RSl S vx ([-1]:List Int)) (n:Nat) (hn:n≤8) :
  Ad Tryz.prog 47 [vx,.int .i64 (n:Int)] w fun v w'=>∃ ad cap,v=.slice ad n cap∧St S (.sl (.slice ad n cap) 3 1 n (cF Bf (List.replicate n (-1)))::M) w':=by
 unfold Ad;have cM:=fun {M:List Chunk} (w:World) (hst:St S M w)=>fM w hst n hn
 have hnn:¬ ((n:Int) < 0):=by omega
 go_enter Tryz.func47,Tryz.ntmps47;repeat' ((apply Z4 ());first|(with_reducible refine kV ?_;with_unfolding_all refine Ag hst (Eu (m:=(1:Int)) rfl Aa Aa (by decide)) ?_<;>(try refine nY ?_))|(apply gK ();go_step)|(apply kc ();refine sc (cM _ hst) ?_;clear hst;rintro v w ⟨rfl,hst⟩)|apply sY ()|fail)
 have hg1:decide ((n:Int) > 9223372036854775807)=false:=decide_eq_false (by omega);repeat' ((apply Z6 ());first|apply sK ()|apply sG ()|(apply gK ();go_step)|fail)
 repeat' (first|(with_reducible refine kV ?_;with_unfolding_all refine Ag hst (Eu (m:=(n:Int)) rfl Aa Aa (KE ⟨by omega,by omega⟩)) ?_<;>(try refine nY ?_))|(apply gK ();go_step)|fail)
 refine IW (n:=n) hst Aa Aa Ab Ab (by omega) (by omega) ?_;clear hst;intro v w hst;(try refine nY ?_);rw [WV] at hst;have hone:=Bh (k:=0) hst rfl;obtain ⟨a0,k0,rfl⟩:=Go.Sl.sl_formk (k:=0) hst rfl;by_cases h0:n=0
 ·subst h0;repeat' (first|(apply gK ();go_step)|fail)
  refine Zo hst Ab Ab hx Aa Aa Aa ?_;(try refine nY ?_);repeat' (first|(apply gK ();go_step)|fail)
  go_loopw [8] (fun u8 wr=>u8=.int .i64 0∧St S (.sl (.slice a0 0 k0) 3 1 0 (GJ 0 0)::M) wr) (fun _ _=>0)
  case atStart=>exact ⟨rfl,hst⟩
  case round =>
   clear hst;obtain ⟨rfl,hst⟩:=hrel;repeat' (first|(apply gK ();go_step)|apply sY ()|fail)
   go_ret;exact ⟨_,rfl,a0,k0,rfl,hst⟩
 ·obtain ⟨c1,hs1,hc1⟩:=Src.data (P:=Tryz.prog) (tx:=52) hst hx (SlT.u (E:=3));obtain rfl:c1=[.int .i64 (-1)]:=fF hc1;repeat' (first|(apply gK ();go_step)|fail)
  refine bS (k:=0) (m:=1) hst Ab Ab rfl Aa Aa hs1 (by simp [Value.oneCell']) (by omega) ?_;clear hst;intro w hst;(try refine nY ?_)
  have hst0:St S (.sl (.slice a0 n k0) 3 1 n (GJ n 1)::M) w:=by
   rw [← Uv (by omega)];exact hst
  clear hst hs1 hc1;have hst:=hst0;clear hst0;repeat' (first|(apply gK ();go_step)|fail)
  go_loopw [8] (fun u8 wr=>∃ c:Nat,1≤c∧c≤n∧u8=.int .i64 (c:Int)∧St S (.sl (.slice a0 n k0) 3 1 n (GJ n c)::M) wr) (fun v _=>n - (intOf v).toNat)
  case atStart=>exact ⟨1,by omega,by omega,rfl,hst⟩
  case round =>
   clear hst;obtain ⟨c,hc1,hc2,rfl,hst⟩:=hrel;by_cases hlt:c < n
   ·obtain ⟨m,hm,hm1,hm2⟩:∃ m:Nat,m=min c (n - c)∧1≤m∧c+m≤n:=⟨min c (n - c),rfl,by omega,by omega⟩
    have hmc:m≤c:=by omega
    have HS:=Lib.hid (WW hm2 hmc);have HO:=Lib.hid (Zp n c);have HM:=Lib.hid hm;clear hm;repeat' ((apply Z9 ());first|(apply gK ();go_step)|apply sY ()|fail)
    refine AN hst kr ?_;clear hst;intro w hst;have hSS:=Bk hst;(try refine nY ?_);refine pd 0 rfl ?_;refine pd 1 rfl ?_;refine pd 2 rfl ?_;refine pd 4 rfl ?_;refine pd 5 rfl ?_;refine BQ 3 6 rfl rfl kr ?_ ?_;intro K hK;refine An hst (QY (a:=c) hst Ab SlIn.h rfl Aa Aa hlt) ?_;rintro v3 ht3;refine pn hK ?_;clear hK K;refine po 6 rfl ?_;intro K hK;refine An hst (NU (b:=c) hst Ab SlIn.h rfl Aa Aa (by omega) (by omega)) ?_;rintro v6 hp6;refine pn hK ?_;clear hK K;refine po 7 rfl ?_;intro K hK;refine NP (m:=m) (o:=c) hst Ab Ab SlIn.h ht3 hp6 Aa Aa HO.out (by omega) (by omega) HM.out ?_;clear hst;intro w hst;simp only [List.set_cons_zero] at hst;rw [HS.out] at hst;(try replace hst:=nH hst);refine pn hK ?_;clear hK K;refine pt 8 rfl (by exact DV rfl rfl Af) ?_;refine pd 9 rfl ?_;refine Az kr ?_;rotate_left;intro K hK;refine An hst (NU (b:=c) hst Ab SlIn.h rfl Aa Aa (by omega) (by omega)) ?_;rintro v6 hp6;refine pn hK ?_;clear hK K;refine po 3 rfl ?_;intro K hK;refine An hst (QY (a:=c) hst Ab SlIn.h rfl Aa Aa hlt) ?_;rintro v3 ht3;refine pn hK ?_;clear hK K;refine po 7 rfl ?_;intro K hK;refine NP (m:=m) (o:=c) hst Ab Ab SlIn.h ht3 hp6 Aa Aa HO.out (by omega) (by omega) HM.out ?_;clear hst;intro w hst;simp only [List.set_cons_zero] at hst;rw [HS.out] at hst;(try replace hst:=nH hst);refine pn hK ?_;clear hK K;refine pt 8 rfl (by exact DV rfl rfl Af) ?_;refine pd 9 rfl ?_;refine Az kr ?_;rotate_left
    all_goals
     repeat' (first|(apply gK ();go_step)|fail)
     go_roundw
     case rel=>exact ⟨c+m,by omega,hm2,by go_num,hst⟩
     case measure=>simp [intOf];omega
   ·obtain rfl:c=n:=by omega
    repeat' (first|(apply gK ();go_step)|apply sY ()|fail)
    go_ret;exact ⟨_,rfl,a0,k0,rfl,by rw [← Zq];exact hst⟩
end Go.Proofs.YtmmbidoldegemaaGreatDoor
