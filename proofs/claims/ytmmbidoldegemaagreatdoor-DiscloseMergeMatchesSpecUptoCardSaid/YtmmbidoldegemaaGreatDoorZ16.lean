/- Part 17 of the proof that the law of the last part holds; no conditions. -/
import Derived.Test.YtmmbidoldegemaaGreatDoorZ15
set_option linter.unusedSimpArgs false
set_option linter.unusedVariables false
set_option maxRecDepth 8000
set_option maxHeartbeats 8000000
namespace Go.Proofs.YtmmbidoldegemaaGreatDoor
open Go.RowKit Go.Sl
instance oB:Key Tryz.prog 3 Int 1:=Nm kr
instance lk:Key Tryz.prog 59 Hd 3:=by
 refine JD (d:=2) Tryz.underlying59 kr kr ?_;simp only [List.toList_toArray]
 haveI k6:KeyFs Tryz.prog [] 66 Unit 0:=Km
 exact C9 (d:=2) (d':=2) rfl kr (kb:=C9 (d:=2) (d':=2) rfl kr (kb:=C9 (d:=1) (d':=2) rfl kr (kb:=C9 (d:=2) (d':=2) rfl kr (kb:=C9 (d:=2) (d':=1) rfl kr (kb:=C9 (d:=1) (d':=0) rfl kr (kb:=k6))))))
instance ly:EqTy Tryz.prog 59:=⟨by kernel_rfl,by kernel_rfl,by kernel_rfl⟩
instance nG:DecidableEq Hd:=@instDecidableEqProd _ _ inferInstance (@instDecidableEqProd _ _ inferInstance (@instDecidableEqProd _ _ inferInstance (@instDecidableEqProd Dg (Dg×Int×Unit) inferInstance inferInstance)))
abbrev Ky:=Int×Int×Unit
abbrev JP (k:Ky):List Value:=[.int .i64 k.1,.int .i64 k.2.1]
abbrev gb (k:Ky):Value:=.agg (JP k).toArray
structure Ts (k:Ky):Prop where
 a:Au k.1
 b:Au k.2.1
theorem jc {S:Ac} {k:Ky} (h:Ts k):Rep.R S (JP k) k:=Ay (cs:=[_]) ⟨rfl,h.a⟩ (Ay (cs:=[_]) ⟨rfl,h.b⟩ Cf)
instance lj:Key Tryz.prog 105 Ky 2:=by
 refine JD (d:=1) Tryz.underlying105 kr kr ?_;simp only [List.toList_toArray]
 haveI k2:KeyFs Tryz.prog [] 2 Unit 0:=Km
 exact C9 (d:=1) (d':=1) rfl kr (kb:=C9 (d:=1) (d':=0) rfl kr (kb:=k2))
instance lx:EqTy Tryz.prog 105:=⟨by kernel_rfl,by kernel_rfl,by kernel_rfl⟩
instance mq:MapT Tryz.prog 156 105 4:=⟨Tryz.underlying156⟩
def Ik (ks:List Ky):List (Ky×Value):=ks.map fun k=>(k,.bool true)
theorem QP (ks:List Ky) (k:Ky):Bu (Ik ks) k=if k∈ks then some (.bool true) else none:=by
 induction ks with
 | nil=>rfl
 | cons x ks ih =>
  unfold Bu Ik at *;rw [List.map_cons,List.find?_cons];by_cases h:k=x
  ·simp [h]
  ·have h2:¬ (k=x):=h;simp only [h,decide_false,List.mem_cons,false_or];exact ih
theorem WJ (ks:List Ky) (k:Ky):(Bu (Ik ks) k).getD (.bool false)=.bool (decide (k∈ks)):=by
 rw [QP];by_cases h:k∈ks<;>simp [h]
theorem Un (ks:List Ky) (k:Ky):Ik (ks++[k])=Ik ks++[(k,.bool true)]:=by simp [Ik]
def SF (ks:List Ky) (k:Nat) (vs:List Value):Prop:=∃ x,ks[k]? = some x∧vs=[gb x]
def fP (ks:List Ky) (k:Nat) (vs:List Value):Prop:=∃ x,ks[k]? = some x∧vs=[gb x,.bool (!decide (x∈ks.take k))]
def dN (ks:List Ky) (k:Nat):Prop:=∃ x,ks[k]? = some x∧x ∉ ks.take k
theorem MF {S M} (w:World) (hst:St S M w) (kv:Value) (h1:kv.oneCell'=true) :
  Ad Tryz.prog 41 [kv] w fun v w'=>∃ b,v=.func (.func 78) #[] #[.pointer (some ⟨b,0,none⟩)]∧St S (.box b [kv] 154::M) w':=by
 unfold Ad;go_enter Tryz.func41,Tryz.ntmps41;repeat' (first|(apply gK ();go_step)|(apply sC ();clear hst;intro bx w hst)|fail)
 refine FI rfl (A3 rfl) ?_;(try simp only [AX,List.drop_zero,List.drop_succ_cons,List.take_succ_cons,List.take_zero,As,Ap])
 change St S (.box _ kv.cells.toList _::M) w at hst
 rw [CD h1] at hst;exact ⟨_,rfl,_,rfl,hst⟩
theorem Lp {S:Ac} {gf:FuncId} {lb:List Value} (hb:Body Tryz.prog gf) {ks:List Ky} (hks:∀ k∈ks,Ts k) {A:Nat→List Chunk} (hit:GG Tryz.prog S gf lb ks.length (SF ks) (fun _=>True) A) (b:Nat) :
  GG Tryz.prog S 78 [.pointer (some ⟨b,0,none⟩)] ks.length (fP ks) (dN ks) (fun k=>.box b [.func (.func gf) #[] lb.toArray] 154::A k):=by
 intro l J X hY S1 M w hS1 hJ hst
 refine Ad.mono (post:=fun v w'=>∃ S'' M',S1.Le S''∧((J ks.length S'' M'∧St S'' ((.box b [.func (.func gf) #[] lb.toArray] 154::A ks.length)++M') w')∨(X S'' M'∧∃ k,k < ks.length∧St S'' ((.box b [.func (.func gf) #[] lb.toArray] 154::A k)++M') w')))
  (post':=fun v w'=>∃ S'' M',S1.Le S''∧((J ks.length S'' M'∧St S'' ((.box b [.func (.func gf) #[] lb.toArray] 154::A ks.length)++M') w')∨(X S'' M'∧∃ k,k < ks.length∧St S'' ((.box b [.func (.func gf) #[] lb.toArray] 154::A k)++M') w'))) ?_ (fun v w' h=>h) |> fun h=>Calls.mono h fun e w' ⟨v,he,hp⟩=>⟨⟨v,he⟩,hp⟩
 refine FZ Tryz.func78 rfl ?_;simp only [Tryz.ntmps78,List.size_toArray,List.length_cons,List.length_nil,Nat.reduceAdd,Nat.reduceSub,Array.replicate_succ,Array.replicate_zero,List.push_toArray,List.append_toArray,List.nil_append,List.cons_append];simp only [List.cons_append] at hst;repeat' ((apply Z1 ());first|(apply gK ();go_step)|(apply sC ();clear hst;intro bx w hst)|fail)
 refine wp_region_lit ?_;refine J6 hst ?_;clear hst;intro mb w hst;(try refine nY ?_);repeat' (first|(apply gK ();go_step)|apply sY ()|(apply sT ();clear hst;intro w hst)|(apply sZ ();clear hst;intro bk w hst)|fail)
 rename Nat=>bk
 have hst0:=hst.perm (Gx [_,_,_,_] (A 0) M)
 refine Us (A:=A)
  (fun k T N=>∃ es clock M1,N=.box bk [.map (some mb)] 156::.obj mb (.map es clock)::.box bx [.func (.yield l) #[] #[]] 155::.box b [.func (.func gf) #[] lb.toArray] 154::M1∧BE T es.toList (Ik (ks.take k))∧J k T M1)
  (fun T N=>∃ es clock M1,N=.box bk [.map (some mb)] 156::.obj mb (.map es clock)::.box bx [.func (.yield l) #[] #[]] 155::.box b [.func (.func gf) #[] lb.toArray] 154::M1∧X T M1)
  hst0 ⟨#[],0,M,rfl,trivial,hJ⟩ rfl hb (hit.mono hS1) Aa ?_ (by simp) (by simp) (by decide) ?_ ?_ ?_
 ·rintro k vs ⟨x,hx,rfl⟩;exact ⟨JP x,rfl,rfl,rfl⟩
 ·clear hst hst0;rintro r k b4 cs S2 M2 C w hk ⟨x,hx,hvs⟩ hS2 ⟨es,clock,M1,rfl,hmap,hJ1⟩ hst;obtain rfl:cs=JP x:=by have:=(List.cons.inj hvs).1;simpa using this
  have hxo:=hks x (List.mem_of_getElem? hx);have hst:=hst.perm (List.Perm.cons _ (Sp (A k) [_,_,_,_] M1 C));simp only [List.cons_append,List.nil_append] at hst;have hRx:Rep.R S2 (JP x) x:=jc hxo;have hlk:=WJ (ks.take k) x;simp only [List.set_cons_succ,List.set_cons_zero];generalize hqv:(!decide (x∈List.take k ks))=fr at *;repeat' ((fail_if_success (with_reducible show Code.wpIn _ _ _ (Code.region 4 _ _) _ _ _));first|with_reducible refine wpIn_seq ?_|with_reducible refine wpIn_block ?_|fail)
  refine GW (.inr ⟨_,rfl⟩) 6 hst kr rfl kr ?_;simp only [List.take_succ_cons,List.take_zero,List.drop_succ_cons,List.drop_zero];refine Cw (AM rfl _ BoxIn.h Aa rfl rfl) ?_;(try refine nY ?_);refine Cw (AM rfl _ BoxIn.h Aa rfl rfl) ?_;(try refine nY ?_);refine Cw (AM rfl _ BoxIn.h Aa rfl rfl) ?_;(try refine nY ?_);refine Cw (AM rfl _ BoxIn.h Aa rfl rfl) ?_;(try refine nY ?_);refine Cw (Cn Ab Ab Aa Aa kr Aa Aa Aa hmap hRx false) ?_;simp only [Bool.false_eq_true,if_false,Ap,hlk];(try refine nY ?_);refine Cw (OW rfl) ?_;(try refine nY ?_);refine Gv ?_;clear hst;intro w hst;have hst':=hst.perm (So [_,_,_,_] [_] (A k) M1 C);have hnb:∀ y,ks[k]? = some y→y=x:=fun y hy=>by rw [hx] at hy;exact (Option.some.inj hy).symm
  refine Vd Ab rfl (Jd (hY k hk _ ⟨x,hx,rfl⟩ S2 M1 _ w (hS1.trans hS2) hJ1 hst')) ?_;clear hst hst';rintro v w (⟨rfl,⟨y,hy,hny⟩,S3,M3,hS3,hJ3,hst⟩|⟨rfl,S3,M3,hS3,hX3,hst⟩)
  ·obtain rfl:=hnb y hy;have hst:=hst.perm (So [_,_,_,_] [_] (A k) M3 C).symm;simp only [List.cons_append,List.nil_append] at hst;have hRx:=Rep.mono hS3 hRx;have hmap:=hmap.mono hS3;have hno:Bu (Ik (ks.take k)) y=none:=by rw [QP,if_neg hny]
   (try refine nY ?_);refine EE (.inr ⟨_,rfl⟩) Rd rfl ?_;repeat' (first|with_reducible refine DX ?_|with_reducible refine Gf ?_|with_reducible refine wpIn_skip ?_|with_reducible refine Fy ?_|with_reducible (refine LQ Ab ?_)|(apply gK ();go_step)|(with_reducible refine kL ?_;refine Ag hst (by first|exact Bl Ab BoxIn.h Aa E5|exact AM rfl _ BoxIn.h Aa rfl rfl) ?_<;>(try refine nY ?_))|fail)
   refine Gg hst Ab Ab Ab Aa Aa kr Aa Aa hmap hRx hno ?_;clear hst;intro es' w hmap' hst;(try refine nY ?_);(try replace hst:=nH hst);repeat' (first|with_reducible refine DX ?_|with_reducible refine Wg ?_|fail)
   refine .inl ⟨rfl,trivial,S3,_,hS3,⟨es',clock+1,M3,rfl,?_,hJ3⟩,?_⟩
   ·rw [List.take_succ_eq_append_getElem hk,Un];have:ks[k]=y:=Option.some.inj ((List.getElem?_eq_getElem hk).symm.trans hx);rw [this];exact hmap'
   ·exact hst.drop.perm (Sp (A k) [_,_,_,_] M3 C).symm
  ·have hst:=hst.perm (So [_,_,_,_] [_] (A k) M3 C).symm;simp only [List.cons_append,List.nil_append] at hst;(try refine nY ?_);refine EE (.inr ⟨_,rfl⟩) Rd rfl ?_;repeat' (first|with_reducible refine DX ?_|with_reducible refine Gf ?_|with_reducible refine Ls ?_|with_reducible refine JS ?_|with_reducible refine wpIn_ret ?_|with_reducible (refine FO Ab ?_)|(apply gK ();go_step)|fail)
   refine .inr ⟨rfl,S3,_,hS3,⟨es,clock,M3,rfl,hX3⟩,?_⟩;exact hst.drop.perm (Sp (A k) [_,_,_,_] M3 C).symm
 ·clear hst hst0;rintro d S2 M2 w hS2 ⟨es,clock,M1,rfl,hmap,hJ1⟩ hst;have hst:=hst.perm (List.Perm.cons _ (Gx (A ks.length) [_,_,_,_] M1));simp only [List.cons_append,List.nil_append] at hst;repeat' (first|(apply gK ();go_step)|fail)
  refine Vu hst rfl fun w' hst'=>⟨_,rfl,S2,M1,hS2,.inl ⟨hJ1,?_⟩⟩
  exact hst'.drop.drop.drop
 ·clear hst hst0;rintro d k S2 M2 w hk hS2 ⟨es,clock,M1,rfl,hX1⟩ hst;have hst:=hst.perm (List.Perm.cons _ (Gx (A k) [_,_,_,_] M1));simp only [List.cons_append,List.nil_append] at hst;repeat' (first|(apply gK ();go_step)|fail)
  refine UE hst rfl fun w' hst'=>⟨_,rfl,S2,M1,hS2,.inr ⟨hX1,k,hk,?_⟩⟩
  exact hst'.drop.drop.drop
instance lu:FlatC (Int×Int) (fun p=>[.int .i64 p.1,.int .i64 p.2]):=⟨fun {S cs x} h=>(LK (α:=Int) (β:=Int)).flat h⟩
def H7 (p:Int×Int):Ky:=(p.1,p.2,())
theorem Ni {ps:List (Int×Int)} {k:Nat} (h:k < ps.length):(ps.map H7)[k]? = some (H7 ps[k]):=by simp [h]
theorem Nb {S:Ac} {v:Value} {ps:List (Int×Int)} (h:RSl S v ps):∀ p∈ps,Au p.1∧Au p.2:=fun p hp=>by
 obtain ⟨cs,hR⟩:=M4 h p hp;exact ⟨hR.2.1.2,hR.2.2.2⟩
theorem Xp {S:Ac} {p:Value} {ps:List (Int×Int)} (h:Pt S p ps):∀ p∈ps,Au p.1∧Au p.2:=by
 obtain ⟨b,o,c,T,fz,rfl,hb,v,hv,hl⟩:=h;exact Nb hl
theorem ZW {S:Ac} (ps:List (Int×Int)) (hm:ps.length≤1048576) (p:Value) (hs:Pt S p ps):GG Tryz.prog S 40 [p] ps.length (SF (ps.map H7)) (fun _=>True) (fun _=>[]):=by
 intro l J X hY S1 M w hS1 hJ hst;have hs:=hs.mono hS1;have hps:=Xp hs;simp only [List.nil_append] at hst hY ⊢;go_enter Tryz.func40,Tryz.ntmps40;repeat' (first|(apply gK ();go_step)|(with_reducible refine kL ?_;refine An hst (Ae Ab Ak Aa) ?_;rintro v ⟨hvl,hv1⟩<;>apply nZ ())|apply sY ()|fail)
 go_loopw [7] (fun v wr=>∃ k S2 M2,k≤ps.length∧v=.int .i64 ((k:Nat):Int)∧S1.Le S2∧J k S2 M2∧St S2 M2 wr) (fun v _=>ps.length - (intOf v).toNat)
 case atStart=>exact ⟨0,S1,M,Nat.zero_le _,rfl,Ac.Le.refl _,hJ,hst⟩
 case round =>
  clear hst;obtain ⟨k,S2,M2,hk,rfl,hS2,hJ2,hst⟩:=hrel;have hvl:=hvl.mono hS2;by_cases hlt:k < ps.length
  ·have hpk:=hps ps[k] (List.getElem_mem hlt);repeat' ((apply Z3 ());first|(apply gK ();go_step)|apply sP ()|(apply sJ ();intro v hp)|(apply sT ();clear hst;intro w hst)|(apply sZ ();clear hst;intro bk w hst)|fail)
   refine (wpIn_wide (n:=0)).1 (wpIn_region_lit (No 6 (.inl rfl) ?_ rfl ?_))
   ·with_unfolding_all (rintro ⟨a,w,⟨v,hv⟩,_⟩;cases hv)
   ·simp only [List.take_succ_cons,List.take_zero,List.drop_succ_cons,List.drop_zero];repeat' (first|(with_reducible refine kI ?_;refine Ag hst (AZ rfl rfl Aa Aa Af Af) ?_<;>apply nZ ())|(apply gK ();go_step)|apply sY ()|fail)
    replace hst:=hst.drop;have hst':St S2 (M2++[]) w:=by rw [List.append_nil];exact hst
    refine Ko (.inl rfl) Ab rfl (Jd (hY k hlt _ ⟨_,Ni hlt,rfl⟩ S2 M2 [] w (hS1.trans hS2) hJ2 hst')) ?_;clear hst hst';rintro v w (⟨rfl,-,S3,M3,hS3,hJ3,hst⟩|⟨rfl,S3,M3,hS3,hX3,hst⟩)
    ·rw [List.append_nil] at hst;apply nZ ();refine EE (.inl rfl) ?_ rfl ?_
     ·with_unfolding_all (rintro ⟨a,w,⟨v,hv⟩,_⟩;cases hv)
     ·repeat' (first|(apply gK ();go_step)|fail)
      go_roundw
      case rel=>exact ⟨k+1,S3,M3,by omega,by go_num,hS2.trans hS3,hJ3,hst⟩
      case measure=>simp [intOf];omega
    ·rw [List.append_nil] at hst;apply nZ ();refine EE (.inl rfl) ?_ rfl ?_
     ·with_unfolding_all (rintro ⟨a,w,⟨v,hv⟩,_⟩;cases hv)
     ·repeat' (first|(apply gK ();go_step)|fail)
      refine bodyPost_ret (results_none rfl _ _ _) rfl ?_;exact ⟨⟨_,rfl⟩,S3,M3,hS2.trans hS3,.inr ⟨hX3,k,hlt,hst⟩⟩
  ·obtain rfl:k=ps.length:=by omega
   repeat' (first|(apply gK ();go_step)|fail)
   go_end0
   exact ⟨⟨_,rfl⟩,S2,M2,hS2,.inl ⟨hJ2,hst⟩⟩
def GQ (p:Pn):Ky:=(p.1,p.2.1,())
theorem Nk {ps:List Pn} {k:Nat} (h:k < ps.length):(ps.map GQ)[k]? = some (GQ ps[k]):=by simp [h]
def Tf (w:World) (b:Nat):Nat:=match w.cell? ⟨b,0,none⟩ with|some v=>(intOf v).toNat|none=>0
theorem PQ {S:Ac} {M:List Chunk} {w:World} {b k:Nat} {T:TypeId} (h:St S (.box b [.int .i64 (k:Int)] T::M) w):Tf w b=k:=by
 have hb:w.heap[b]? = some (.cells #[.int .i64 (k:Int)] T (0,0)):=h.at_ _ (.head _);have:w.cell? ⟨b,0,none⟩=some (.int .i64 (k:Int)):=by simp [World.cell?,hb]
 simp [Tf,this,intOf]
theorem Ys {S:Ac} (ev:Br) (hm:ev.2.2.1.length≤1048576) (p:Value) (hs:Pt S p ev) (bi:Nat) :
  GG Tryz.prog S 83 [.pointer (some ⟨bi,0,none⟩),p] ev.2.2.1.length (SF (ev.2.2.1.map GQ)) (fun _=>True) (fun k=>[.box bi [.int .i64 (k:Nat)] 3]):=by
 intro l J X hY S1 M w hS1 hJ hst;have hs:=hs.mono hS1;simp only [List.cons_append,List.nil_append] at hst hY ⊢;go_enter Tryz.func83,Tryz.ntmps83;repeat' (first|(apply gK ();go_step)|fail)
 go_loopw [] (fun wr=>∃ k S2 M2,k≤ev.2.2.1.length∧S1.Le S2∧J k S2 M2∧St S2 (.box bi [.int .i64 ((k:Nat):Int)] 3::M2) wr) (fun wr=>ev.2.2.1.length - Tf wr bi)
 case atStart=>exact ⟨0,S1,M,Nat.zero_le _,Ac.Le.refl _,hJ,hst⟩
 case round =>
  clear hst;obtain ⟨k,S2,M2,hk,hS2,hJ2,hst⟩:=hrel;have hs:=hs.mono hS2;have hme:=PQ hst;by_cases hlt:k < ev.2.2.1.length
  ·have hkl:decide (((k:Nat):Int) < (ev.2.2.1.length:Int))=true:=decide_eq_true (by omega);repeat' ((apply Z0 ());first|(apply gK ();go_step)|fail)
   refine (wpIn_wide (n:=0)).1 (GW (.inl rfl) 20 hst kr rfl kr ?_);simp only [List.take_succ_cons,List.take_zero,List.drop_succ_cons,List.drop_zero]
   repeat (((first|(with_reducible refine Sl.kq_guard ?_;(refine Sl.q_guard_yes rfl ?_))|(with_reducible refine Sl.kq_load ?_;(first|refine Cw (by exact AM rfl _ BoxIn.h Aa rfl rfl) ?_|(refine IM (Am Ab Ak Aa) ?_;rintro v ⟨rfl,hI⟩)|(refine IM (Ae Ab Ak Aa) ?_;rintro v ⟨hvl,hv1⟩)))|(with_reducible refine Sl.kq_field ?_;(((refine IM (Ah Ab Ak Aa Aa rfl) ?_);rintro v hp;(try simp only [Int.toNat_natCast,Int.toNat_natCast_add_one,Int.reduceToNat] at hp))))|(with_reducible refine Sl.kq_index ?_;(((refine IM (Ao Ab Ak rfl Aa Aa Af Af) ?_);rintro v hp;(try simp only [Int.toNat_natCast,Int.toNat_natCast_add_one,Int.reduceToNat] at hp))))|(with_reducible refine Sl.kq_call ?_;(refine Cw (by exact Ei Ab Ak Aa) ?_))|(refine Sl.kq_plain rfl ?_;(first|(refine Cw (DG rfl rfl Ak) ?_)|refine Cw (Cz (cs:=JP (GQ ev.2.2.1[k])) Aa Aa rfl) ?_|refine Cw (by exact C4 Ab) ?_)))<;>apply nZ ()))
   refine Gv ?_;clear hst;intro w hst;have hst':St S2 ([.box bi [.int .i64 (k:Nat)] 3]++(M2++[])) w:=by rw [List.append_nil];exact hst
   refine Qr rfl (Ko (.inl rfl) Ab rfl (Jd (hY k hlt _ ⟨_,Nk hlt,rfl⟩ S2 M2 [] w (hS1.trans hS2) hJ2 hst')) ?_);clear hst hst';rintro v w (⟨rfl,-,S3,M3,hS3,hJ3,hst⟩|⟨rfl,S3,M3,hS3,hX3,hst⟩)
   ·rw [List.append_nil] at hst;apply nZ ();refine EE (.inl rfl) ?_ rfl ?_
    ·with_unfolding_all (rintro ⟨a,w,⟨v,hv⟩,_⟩;cases hv)
    ·repeat' (first|(apply gK ();go_step)|apply sY ()|(apply sT ();clear hst;intro w hst)|fail)
     have hst2:St S3 (.box bi [.int .i64 ((k+1:Nat):Int)] 3::M3) w:=hst;have hme2:=PQ hst2;go_roundw
     case rel=>exact ⟨k+1,S3,M3,by omega,hS2.trans hS3,hJ3,hst2⟩
     case measure=>rw [hme,hme2];omega
   ·rw [List.append_nil] at hst;apply nZ ();refine EE (.inl rfl) ?_ rfl ?_
    ·with_unfolding_all (rintro ⟨a,w,⟨v,hv⟩,_⟩;cases hv)
    ·repeat' (first|(apply gK ();go_step)|fail)
     go_end0
     exact ⟨⟨_,rfl⟩,S3,M3,hS2.trans hS3,.inr ⟨hX3,k,hlt,hst⟩⟩
  ·obtain rfl:k=ev.2.2.1.length:=by omega
   have hkl:decide ((ev.2.2.1.length:Int) < (ev.2.2.1.length:Int))=false:=decide_eq_false (by omega);repeat' ((apply Z0 ());first|(apply gK ();go_step)|fail)
   refine E6 hst kr kr ?_
   repeat (((first|(with_reducible refine Sl.kq_guard ?_;(refine Sl.q_guard_no rfl ?_))|(with_reducible refine Sl.kq_load ?_;(first|refine Cw (by exact AM rfl _ BoxIn.h Aa rfl rfl) ?_|(refine IM (Ae Ab Ak Aa) ?_;rintro v ⟨hvl,hv1⟩)))|(with_reducible refine Sl.kq_field ?_;(((refine IM (Ah Ab Ak Aa Aa rfl) ?_);rintro v hp;(try simp only [Int.toNat_natCast,Int.toNat_natCast_add_one,Int.reduceToNat] at hp))))|(with_reducible refine Sl.kq_call ?_;(refine Cw (by exact Ei Ab Ak Aa) ?_))|(refine Sl.kq_plain rfl ?_;(first|(refine Cw (DG rfl rfl Ak) ?_)|refine Cw (by first|exact C4 Ab|exact GL rfl Ab) ?_)))<;>apply nZ ()))
   refine Gv ?_;clear hst;intro w hst;repeat' (first|(apply gK ();go_step)|fail)
   go_end0
   exact ⟨⟨_,rfl⟩,S2,M2,hS2,.inl ⟨hJ2,hst⟩⟩
theorem Jx:∀ (f:Nat) (l:List Dg) (i:Nat),∀ d∈CX f l i,d.l.length=16
 | 0,_,_,d,h=>by cases h
 | f+1,l,i,d,h=>by
  rw [CX] at h;split at h
  ·cases h
  ·split at h
   ·rcases List.mem_append.1 h with h|h
    ·exact Jx f _ _ d h
    ·obtain rfl:=List.mem_singleton.1 h;exact Cm _
   ·rcases List.mem_append.1 h with h|h
    ·exact Jx f _ _ d h
    ·obtain rfl:=List.mem_singleton.1 h;exact Cm _
theorem Sk (l:List Dg) (i:Nat):∀ d∈Be l i,d.l.length=16:=Jx _ _ _
theorem Jy:∀ (f:Nat) (l:List Dg) (i:Nat),(CX f l i).length≤f
 | 0,_,_=>by simp [CX]
 | f+1,l,i=>by
  rw [CX];split
  ·simp
  ·split
   ·have:=Jy f (l.take (At l.length)) i;simp;omega
   ·have:=Jy f (l.drop (At l.length)) (i - At l.length);simp;omega
theorem Jw (l:List Dg) (i:Nat):(Be l i).length≤l.length:=Jy _ _ _
abbrev iK (b7 b6:Nat) (u:Value) (c:List Dg) (M:List Chunk):List Chunk :=
 .sl u 23 16 c.length (cF Eo c)::.box b7 [.func (.func 79) #[] #[.pointer (some ⟨b7,0,none⟩),.pointer (some ⟨b6,0,none⟩)]] 157::.box b6 [u] 61::M
theorem bG:∀ (m:Nat) {S M} (w:World) (b7 b6:Nat) (u:Value) (c:List Dg) (_hst:St S (iK b7 b6 u c M) w) (_hG:Bo S) (vl:Value) (l:List Dg) (_hl:RSl S vl l) (i:Nat) (_hi:i < l.length) (_hm:l.length≤m) (_hm2:m≤1000) (_hc:c.length+l.length≤2000),
  Ad Tryz.prog 79 [vl,.int .i64 (i:Int),.pointer (some ⟨b7,0,none⟩),.pointer (some ⟨b6,0,none⟩)] w fun _ w'=>∃ u',St S (iK b7 b6 u' (c++Be l i) M) w':=by
 intro m
 induction m with
 | zero=>intro S M w b7 b6 u c hst hG vl l hl i hi hm;omega
 | succ m ih =>
  intro S M w b7 b6 u c hst hG vl l hl i hi hm hm2 hc;by_cases h1:l.length=1
  ·have hp:=Sj (l:=l) (by omega) i;have Hp:=Lib.hid hp;clear hp;have h11:1≤l.length∧l.length≤1:=by omega
   clear h1;unfold Ad;go_enter Tryz.func79,Tryz.ntmps79;repeat' (first|(apply gK ();go_step)|apply sY ()|fail)
   refine bodyPost_ret (results_none rfl _ _ _) rfl ?_;exact ⟨_,rfl,u,by rw [Hp.out,List.append_nil];exact hst⟩
  ·have h2:2≤l.length:=by omega
   obtain ⟨hs1,hs2⟩:=Cd h2;have hsp:=fun {S M} (w:World) (hst:St S M w)=>MY w hst l.length h2 (by omega)
   have hL:=Lib.hid (fun h=>Lb (i:=i) h2 h);have hR:=Lib.hid (fun h=>Kd (i:=i) h2 h);have hlen1:(l.take (At l.length)).length≤m∧(l.take (At l.length)).length=At l.length:=by rw [List.length_take];omega
   have hlen2:(l.drop (At l.length)).length≤m∧(l.drop (At l.length)).length=l.length - At l.length:=by rw [List.length_drop];omega
   have E9:Hid ((l.drop (At l.length)).take (l.length - At l.length)=l.drop (At l.length)):=Lib.hid (List.take_of_length_le (by rw [List.length_drop];exact Nat.le_refl _));obtain ⟨l1,e1⟩:=hlen1;obtain ⟨l2,e2⟩:=hlen2;have E1:=Lib.hid e1;have E2:=Lib.hid e2;have l1':i < At l.length→i < (l.take (At l.length)).length:=fun h=>by omega
   have l2':¬ i < At l.length→i - At l.length < (l.drop (At l.length)).length:=fun h=>by omega
   have cn1:=Jw (l.take (At l.length)) i;have cn2:=Jw (l.drop (At l.length)) (i - At l.length);have cc1:c.length+(l.take (At l.length)).length≤2000:=by omega
   have cc2:c.length+(l.drop (At l.length)).length≤2000:=by omega
   clear e1 e2 h1;generalize hk:At l.length=k at *;have Hk:=Lib.hid hk;clear hk;unfold Ad;by_cases hik:i < k
   ·go_enter Tryz.func79,Tryz.ntmps79;repeat' (first|(apply gK ();go_step)|(apply kc ();refine sc (hsp _ hst) ?_;clear hst;rintro v w ⟨rfl,hst⟩)|apply sY ()|fail)
    refine AF hst kr ?_;clear hst;intro ops;(try refine nY ?_);refine td 0 rfl ?_;refine td 1 rfl ?_;refine td 2 rfl ?_
    ((refine Bz 3 rfl kr rfl rfl (fun w hst=>DF (a:=0) (b:=k) Ab hl Aa Aa (.inl ⟨rfl,rfl⟩) (.inr ⟨.i64,by simp [Ai,AX]⟩) (.inr ⟨.i64,k,by simp [Ai,AX],by omega,by omega,rfl⟩) (by omega) (by omega) ) ?_;rintro  v3 hv3))<;>(try refine nY ?_)
    refine td 4 rfl ?_;refine td 5 rfl ?_;refine td 6 rfl ?_;refine td 7 rfl ?_
    ((refine Bz 8 rfl kr rfl rfl (fun w hst=>DF (a:=k) (b:=l.length) Ab hl Aa Aa (.inr ⟨.i64,by simp [Ai,AX]⟩) (.inr ⟨.i64,by simp [Ai,AX]⟩) (.inr ⟨.i64,l.length,by simp [Ai,AX],by omega,by omega,rfl⟩) (by omega) (by omega) ) ?_;rintro  v8 hv8))<;>(try refine nY ?_)
    refine td 9 rfl ?_;refine td 10 rfl ?_;refine AK kr ?_;clear ops;intro w hst;replace hv3:RSl S v3 (l.take k):=hv3;rw [E9.out] at hv8;repeat' (first|(apply gK ();go_step)|apply sY ()|fail)
    refine DU (ih _ b7 b6 u c hst hG v3 (l.take k) hv3 i (l1' hik) l1 (by omega) cc1) rfl Aa rfl rfl ?_;clear hst;rintro v w ⟨u',hst⟩;refine nY ?_;repeat' (first|(apply gK ();go_step)|fail)
    have hcl:(c++Be (l.take k) i).length≤3000:=by rw [List.length_append];omega
    have hu':=AW hst;have HC:=Lib.hid (show c++Be l i=(c++Be (l.take k) i)++[B0 (l.drop k)] by rw [hL.out hik,List.append_assoc]);clear cn1 cn2;generalize c++Be (l.take k) i=c1 at *;refine AF hst kr ?_;clear hst;intro ops;(try refine nY ?_);refine td 0 rfl ?_;refine td 1 rfl ?_;(refine Ba 2 rfl kr rfl (fun S' M' w hS hM hst=>OS (l.drop k).length w hst (hG.mono hS) v8 (l.drop k) (hv8.mono hS) (Nat.le_refl _) (by omega)) Aa rfl ?_)<;>(try refine nY ?_)
    refine AR 3 rfl kr ?_;intro w hst K hK;refine AA (vs:=[Cu (B0 (l.drop k))]) hst Aa Aa rfl rfl (by simp [Value.cells,A8,Cm]) rfl (by omega) (by omega) ?_;clear hst;intro x3 w hst;(try refine nY ?_);(try replace hst:=nH hst);refine Bn hK hst (Ac.Le.refl _) (Suf.cons (Suf.refl _)) ?_;clear hst hK K;(try clear w);(try refine nY ?_);refine AR 4 rfl kr ?_;intro w hst K hK;refine AG (j:=0) hst Ab Ab SlIn.h rfl Aa Aa Aa ((by simpa [Value.cells] using EO (B0 (l.drop k)).l)) (by omega) (by omega) (by decide) ?_;clear hst;intro x4 w hst;(try refine nY ?_);(try replace hst:=nH hst);replace hst:=hst.drop;have hone4:=AW hst;refine Bb hK hst ?_;clear hst hK K;(try clear w);(try refine nY ?_);refine AR 5 rfl kr ?_;intro w hst K hK;(refine EV hst rfl BoxIn.h Ab Ak Aa (by simp<;>omega) ?_);clear hst;intro w hst;(try refine nY ?_);(try replace hst:=nH hst);refine Bb hK hst ?_;clear hst hK K;(try clear w);(try refine nY ?_);refine AK kr ?_;clear ops;intro w hst;repeat' (first|(apply gK ();go_step)|fail)
    refine bodyPost_ret (results_none rfl _ _ _) rfl ?_;apply gI ()
   ·go_enter Tryz.func79,Tryz.ntmps79;repeat' (first|(apply gK ();go_step)|(apply kc ();refine sc (hsp _ hst) ?_;clear hst;rintro v w ⟨rfl,hst⟩)|apply sY ()|fail)
    refine AF hst kr ?_;clear hst;intro ops;(try refine nY ?_);refine td 0 rfl ?_;refine td 1 rfl ?_;refine td 2 rfl ?_
    ((refine Bz 3 rfl kr rfl rfl (fun w hst=>DF (a:=0) (b:=k) Ab hl Aa Aa (.inl ⟨rfl,rfl⟩) (.inr ⟨.i64,by simp [Ai,AX]⟩) (.inr ⟨.i64,k,by simp [Ai,AX],by omega,by omega,rfl⟩) (by omega) (by omega) ) ?_;rintro  v3 hv3))<;>(try refine nY ?_)
    refine td 4 rfl ?_;refine td 5 rfl ?_;refine td 6 rfl ?_;refine td 7 rfl ?_
    ((refine Bz 8 rfl kr rfl rfl (fun w hst=>DF (a:=k) (b:=l.length) Ab hl Aa Aa (.inr ⟨.i64,by simp [Ai,AX]⟩) (.inr ⟨.i64,by simp [Ai,AX]⟩) (.inr ⟨.i64,l.length,by simp [Ai,AX],by omega,by omega,rfl⟩) (by omega) (by omega) ) ?_;rintro  v8 hv8))<;>(try refine nY ?_)
    refine td 9 rfl ?_;refine td 10 rfl ?_;refine AK kr ?_;clear ops;intro w hst;replace hv3:RSl S v3 (l.take k):=hv3;rw [E9.out] at hv8;have hik':((i:Int) - (k:Int))=((i - k:Nat):Int):=by omega
    repeat' (first|(apply gK ();go_step)|apply sY ()|fail)
    have HI:=Lib.hid hik';clear hik';refine DU (ih _ b7 b6 u c hst hG v8 (l.drop k) hv8 (i - k) (l2' hik) l2 (by omega) cc2) rfl Aa rfl rfl ?_;clear hst;rintro v w ⟨u',hst⟩;refine nY ?_;repeat' (first|(apply gK ();go_step)|fail)
    have hcl:(c++Be (l.drop k) (i - k)).length≤3000:=by rw [List.length_append];omega
    have hu':=AW hst;have HC:=Lib.hid (show c++Be l i=(c++Be (l.drop k) (i - k))++[B0 (l.take k)] by rw [hR.out hik,List.append_assoc]);clear cn1 cn2;generalize c++Be (l.drop k) (i - k)=c1 at *;refine AF hst kr ?_;clear hst;intro ops;(try refine nY ?_);refine td 0 rfl ?_;refine td 1 rfl ?_;(refine Ba 2 rfl kr rfl (fun S' M' w hS hM hst=>OS (l.take k).length w hst (hG.mono hS) v3 (l.take k) (hv3.mono hS) (Nat.le_refl _) (by omega)) Aa rfl ?_)<;>(try refine nY ?_)
    refine AR 3 rfl kr ?_;intro w hst K hK;refine AA (vs:=[Cu (B0 (l.take k))]) hst Aa Aa rfl rfl (by simp [Value.cells,A8,Cm]) rfl (by omega) (by omega) ?_;clear hst;intro x3 w hst;(try refine nY ?_);(try replace hst:=nH hst);refine Bn hK hst (Ac.Le.refl _) (Suf.cons (Suf.refl _)) ?_;clear hst hK K;(try clear w);(try refine nY ?_);refine AR 4 rfl kr ?_;intro w hst K hK;refine AG (j:=0) hst Ab Ab SlIn.h rfl Aa Aa Aa ((by simpa [Value.cells] using EO (B0 (l.take k)).l)) (by omega) (by omega) (by decide) ?_;clear hst;intro x4 w hst;(try refine nY ?_);(try replace hst:=nH hst);replace hst:=hst.drop;have hone4:=AW hst;refine Bb hK hst ?_;clear hst hK K;(try clear w);(try refine nY ?_);refine AR 5 rfl kr ?_;intro w hst K hK;(refine EV hst rfl BoxIn.h Ab Ak Aa (by simp<;>omega) ?_);clear hst;intro w hst;(try refine nY ?_);(try replace hst:=nH hst);refine Bb hK hst ?_;clear hst hK K;(try clear w);(try refine nY ?_);refine AK kr ?_;clear ops;intro w hst;repeat' (first|(apply gK ();go_step)|fail)
    go_end0
    apply gI ()
end Go.Proofs.YtmmbidoldegemaaGreatDoor
