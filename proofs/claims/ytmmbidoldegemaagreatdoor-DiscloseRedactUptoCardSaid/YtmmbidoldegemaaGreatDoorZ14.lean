/- Part 15 of a proof; no conditions. -/
import Derived.Test.YtmmbidoldegemaaGreatDoorZ13
set_option linter.all false
set_option maxRecDepth 8000
set_option maxHeartbeats 8000000
namespace Go.Proofs.YtmmbidoldegemaaGreatDoor
open Go.RowKit Go.Sl Go.Proofs.Tryz
def E8 (m:Dg) (log:List Ev):Rg:=log.foldl (fun r e=>GW r (AE e)) (Gu m)
def JD (e:Ev):Prop:=e.2.1.length≤1000∧e.2.2.1.length≤1000∧e.2.2.2.1.length≤4000
theorem QB:∀ (log:List Ev) (r:Rg),EP r→EP (log.foldl (fun r e=>GW r (AE e)) r)
 | [],_,h=>h
 | e::log,r,_=>QB log _ (Su r (AE e))
theorem QC (m log):EP (E8 m log):=QB log _ (I2 m)
theorem My {S cs e} (h:Z.R S cs e) (k:JD e):FN (AE e):=by
 obtain ⟨h1,h2⟩:=QO h;obtain ⟨_,k2,_⟩:=k;exact ⟨h1,Cx _ _,by unfold Au;show (-9223372036854775808:Int)≤(e.2.2.1.length:Int)∧(e.2.2.1.length:Int)≤9223372036854775807;omega,CA _,CA _,h2⟩
theorem dF {S M} (w) (V:St S M w) (vl) (log:List Ev) (hl:RSl S vl log):
  Ac prog 51 [vl] w fun v w'=>∃ S' p,S.Le S'∧v=.func (.func 92) #[] #[p]∧Pt S' p log∧St S' M w':=by
 unfold Ac;have h1:=hl.oneCell;go_enter func51,ntmps51;repeat' (first|(apply O ();go_step)|(apply sC ();clear V;intro bx w V)|fail)
 refine GP rfl (A8 rfl) ?_;(try simp only [AV,List.drop_zero,List.drop_succ_cons,List.take_succ_cons,List.take_zero,AB,Ap])
 change St S (.box _ vl.cells.toList _::M) w at V
 rw [Go.Sl.CS h1] at V;obtain ⟨S2,hS2,V,hps⟩:=AC (α:=List Ev) (x:=log) V (by exact ⟨vl,rfl,hl⟩) rfl;exact ⟨_,rfl,S2,_,hS2,rfl,hps,V⟩
def gh (log:List Ev) (k:Nat) (vs:List Value):Prop:=∃ e,log[k]? = some e∧vs=[Wt (AE e)]
theorem Zp {S} (hG:Bu S) (log) (hm:log.length≤1000) (hok:∀ e∈log,JD e) (ps) (hs:Pt S ps log):LU prog S 92 [ps] log.length (gh log):=by
 intro l MM hY w V;go_enter func92,ntmps92;repeat' (first|(apply O ();go_step)|(apply tL ();refine An V (Aj X Ak Y) ?_;rintro v ⟨hvl,hv1⟩<;>apply nZ ())|apply sY ()|fail)
 go_loopw [7] (fun v wr=>∃ k,k≤log.length∧v=.int .i64 ((k:Nat):Int)∧St S (MM k) wr) (fun v _=>log.length - (intOf v).toNat)
 case atStart=>exact ⟨0,Nat.zero_le _,rfl,V⟩
 case round =>
  clear V;obtain ⟨k,hk,rfl,V⟩:=hrel;by_cases hlt:k < log.length
  ·have hek:=hok log[k] (List.getElem_mem hlt);obtain ⟨he1,he2,he3⟩:=hek;repeat' ((apply ZZ 3);first|(apply tS ();refine I4 V rfl N.h X Ak Y rfl rfl ?_;clear V;intro w V<;>apply nZ ()<;>(try replace V:=nH V))|(apply O ();go_step)|(apply tL ();refine An V (Aw X Ak Y) ?_;rintro v ⟨cl,rfl,hcl⟩<;>apply nZ ())|(apply sJ ();intro v L)|(apply sZ ();clear V;intro bk w V)|fail)
   refine (wpIn_wide (n:=0)).1 (wpIn_region_lit (Oj 3 (.inl rfl) ?_ rfl ?_))
   ·rintro ⟨a,w,⟨v,hv⟩,_⟩;cases hv
   ·simp only [List.take_succ_cons,List.take_zero,List.drop_succ_cons,List.drop_zero];repeat' (first|(apply O ();go_step)|(apply tL ();with_unfolding_all refine Ag V (Gb (x0:=log[k]) rfl N.h hcl Y) ?_<;>apply nZ ())|(apply kc ();refine sc (Wr _ V hG cl log[k] hcl he1 he2 he3) ?_;clear V;rintro v w ⟨rfl,V⟩)|fail)
    replace V:=V.drop;refine Qv rfl rfl (hY k hlt _ ⟨log[k],List.getElem?_eq_getElem hlt,rfl⟩ _ V) ?_;clear V;intro w V;refine nY ?_;refine E7 (.inl rfl) ?_ rfl ?_
    ·rintro ⟨a,w,⟨v,hv⟩,_⟩;cases hv
    ·repeat' (first|(apply O ();go_step)|fail)
     go_roundw
     case rel=>exact ⟨k+1,by omega,by go_num,V⟩
     case measure=>simp [intOf];omega
  ·obtain rfl:k=log.length:=by omega
   repeat' (first|(apply O ();go_step)|fail)
   go_end0
   exact ⟨⟨_,rfl⟩,V⟩
theorem N2 {α:Type} [Z α] {S v} {xs:List α} (h:RSl S v xs) (x) (hx:x∈xs):∃ cs,Z.R S cs x:=by
 obtain ⟨i,hi,rfl⟩:=List.mem_iff_getElem.1 hx;rcases h with ⟨ad,cap,_,h,_⟩|⟨b,o,cap,c,T,fz,_,_,_,_,h⟩
 ·subst h;simp at hi
 ·exact ⟨_,h.at_ i hi⟩
theorem Uo (m) (log:List Ev) {k e} (h:log[k]? = some e):E8 m (log.take (k+1))=GW (E8 m (log.take k)) (AE e):=by
 obtain ⟨hk,rfl⟩:=List.getElem?_eq_some_iff.1 h;rw [List.take_succ_eq_append_getElem hk,E8,List.foldl_append];rfl
theorem gu {S M} (w) (V:St S M w) (hG:Bu S) (m) (hm:m.l.length=16) (vl log) (hl:RSl S vl log) (hlen:log.length≤1000) (hok:∀ e∈log,JD e):
  Ac prog 20 [Cu m,vl] w fun v w'=>v=L4 (E8 m log)∧St S M w':=by
 unfold Ac;have hl1:=hl.oneCell
 haveI:LenIs m.l 16:=⟨hm⟩
 refine Gz func20 rfl ?_;simp only [ntmps20,List.size_toArray,List.length_cons,List.length_nil,Nat.reduceAdd,Nat.reduceSub,Array.replicate_succ,Array.replicate_zero,List.push_toArray,List.append_toArray,List.nil_append,List.cons_append];repeat' (first|(apply O ();go_step)|(apply kc ();refine sc (RU _ V hG m hm) ?_;clear V;rintro v w ⟨rfl,V⟩)|(apply tL ();refine Ag V (by exact Gc X N.h Y Y) ?_<;>apply nZ ())|(apply sC ();clear V;intro bx w V)|(apply sZ ();clear V;intro bk w V)|fail)
 refine Cf V rfl N.h Y (x0:=Gu m) (cs:=FK (Gu m)) X (Dm (I2 m)) rfl ?_;clear V;intro w V;apply nZ ();(try replace V:=nH V);rename Nat=>b5
 repeat' (first|(apply O ();go_step)|(apply kc ();refine sc (dF _ V vl log hl) ?_;clear V;rintro v w ⟨S2,p,hS2,rfl,hps,V⟩)|fail)
 have hG2:=hG.mono hS2;have hfs:∀ k,EP (E8 m (log.take k)):=fun k=>QC m _
 have hhd:∀ e∈log,FN (AE e):=fun e he=>by
  obtain ⟨cs,hR⟩:=N2 hl e he;exact My hR (hok e he)
 refine Yf (I:=fun k=>[.box b5 (FK (E8 m (log.take k))) 50]) (M0:=_) V rfl Y (Zp hG2 log hlen hok p hps) Y ?_ (by simp) (by simp) (by decide) ?_ ?_
 ·rintro k vs ⟨e,he,rfl⟩;have hr:Z.R S (GD (AE e)) (AE e):=Dw (hhd e (List.mem_of_getElem? he));exact ⟨GD (AE e),rfl,Z.len hr,List.all_eq_true.2 (Z.one hr)⟩
 ·clear V;rintro r k b cs C w hk ⟨e,he,hvc⟩ V
  have hcs:cs=GD (AE e):=by
   have:=(List.cons.inj hvc).1
   simpa using this
  subst hcs;have hhe:=hhd e (List.mem_of_getElem? he);have hsu:=Lib.hid (Uo m log he);have hfk:=hfs k;have hfk1:=hfs (k+1);rw [hsu.out] at hfk1;simp only [List.cons_append,List.nil_append] at V;generalize E8 m (log.take k)=F at *;generalize AE e=E at *;have hrF:Z.R S2 (FK F) F:=Dm hfk;have hrE:Z.R S2 (GD E) E:=Dw hhe;apply nZ ();refine wpIn_block (Fw (.inr ⟨r,rfl⟩) ?_ rfl ?_)
  ·rintro ⟨a,w,h,_⟩;cases h
  ·repeat' (first|(apply tL ();with_unfolding_all refine Ag V (by first|exact Gb (x0:=F) rfl N.h hrF Y|exact Gb (x0:=E) rfl N.h hrE Y) ?_<;>apply nZ ())|(apply kc ();refine sc (QF _ V hG2 F hfk E hhe) ?_;clear V;rintro v w ⟨rfl,V⟩)|fail)
   refine Cf V rfl N.h Y (x0:=GW F E) (cs:=FK (GW F E)) X (Dm hfk1) (Z.len hrF) ?_;clear V;intro w V;apply nZ ();(try replace V:=nH V);repeat' (first|(apply O ();go_step)|fail)
   refine ⟨trivial,?_⟩;simp only [List.cons_append,List.nil_append];rw [hsu.out];exact V.drop
 ·clear V;intro d w V;simp only [List.cons_append,List.nil_append] at V;rw [List.take_length] at V;have hfa:=QC m log;have hrA:Z.R S2 (FK (E8 m log)) (E8 m log):=Dm hfa;repeat' (first|(apply O ();go_step)|(apply tL ();with_unfolding_all refine Ag V (Gb (x0:=E8 m log) rfl N.h hrA Y) ?_<;>apply nZ ())|fail)
  refine Cf V rfl N.h Y (x0:=E8 m log) (cs:=FK (E8 m log)) X hrA rfl ?_;clear V;intro w V;apply nZ ();(try replace V:=nH V);repeat' (first|(apply O ();go_step)|fail)
  refine I7 V rfl (fun w' hst'=>k8 hst' rfl N.h Y hrA) fun w' hst'=>⟨_,rfl,rfl,St.weaken hS2 hst'.drop.drop.drop⟩
theorem Rs (lf) {xs k} (h) (h2:k < (DD lf xs).length):(DD lf xs)[k]=lf (k:Int) xs[k]:=by
 simp only [DD,List.getElem_map,List.getElem_range];rw [List.getD_eq_getElem?_getD,List.getElem?_eq_getElem h];rfl
theorem Rr (lf:Int→Int→Dg) {xs:List Int} {i} (h):((List.range (i+1)).map fun (j:Nat)=>lf (j:Int) (xs.getD j 0))=((List.range i).map fun (j:Nat)=>lf (j:Int) (xs.getD j 0))++[lf (i:Int) xs[i]]:=by
 rw [List.range_succ,List.map_append];simp only [List.map_cons,List.map_nil];rw [List.getD_eq_getElem?_getD,List.getElem?_eq_getElem h];rfl
abbrev Pn:=Int×Int×Int×List Dg×Unit
abbrev Cz:=Dg×List Hd×List Pn×Unit
abbrev FM (e:Ev):List Dg:=DD BX e.2.2.1
def FE (log:List Ev):List (Int×Int)→List (Int×Int)→Option (List Pn)
 | _,[]=>some []
 | bf,r::rs=>if r∈bf∨r.1 < 0∨log.length≤r.1 then none else
  match log[r.1.toNat]? with
  | none=>none
  | some e=>if r.2 < 0∨e.2.2.1.length≤r.2 then none else
   match FE log (r::bf) rs with
   | none=>none
   | some ps=>some ((r.1,r.2,e.2.2.1.getD r.2.toNat 0,Bk (FM e) r.2.toNat,())::ps)
def CX (hs:List Hd):List (Int×Int)→List Pn→Nat
 | _,[]=>0
 | bf,p::ps=>if (p.1,p.2.1)∈bf∨p.1 < 0∨hs.length≤p.1∨p.2.2.1 < 0∨3 < p.2.2.1 then 1 else
  match hs[p.1.toNat]? with
  | none=>1
  | some h=>if p.2.1 < 0∨h.2.2.1≤p.2.1 then 1 else
   if Cj h.2.2.2.1 h.2.2.1.toNat p.2.1.toNat (BX p.2.1 p.2.2.1) p.2.2.2.1 then CX hs ((p.1,p.2.1)::bf) ps else 16
def DL (m:Dg) (hs:List Hd):Rg:=hs.foldl GW (Gu m)
theorem Yw (m log):DL m (log.map AE)=E8 m log:=by
 unfold DL E8;rw [List.foldl_map]
theorem YM {e} {k:Int} (h0:0≤k) (h1:k < e.2.2.1.length):Cj (AE e).2.2.2.1 (AE e).2.2.1.toNat k.toNat (BX k (e.2.2.1.getD k.toNat 0)) (Bk (FM e) k.toNat)=true:=by
 obtain ⟨n,rfl⟩:=Int.eq_ofNat_of_zero_le h0;have hn:n < e.2.2.1.length:=by omega
 have hl:(FM e).length=e.2.2.1.length:=G9 _ _;have:=MT (l:=FM e) (i:=n) (by omega);rw [Rs BX hn (by rw [G9];exact hn),hl] at this;rw [Int.toNat_natCast,List.getD_eq_getElem?_getD,List.getElem?_eq_getElem hn];exact this
theorem aa {log:List Ev} (hv:∀ e∈log,∀ t∈e.2.2.1,(0:Int)≤t∧t≤3):∀ (rs bf:List (Int×Int)) (ps:List Pn),FE log bf rs=some ps→CX (log.map AE) bf ps=0
 | [],bf,ps,h=>by
  simp only [FE,Option.some.injEq] at h;subst h;rfl
 | r::rs,bf,ps,h=>by
  simp only [FE] at h;split at h
  ·cases h
  ·rename_i hc;split at h
   ·cases h
   ·rename_i e he;split at h
    ·cases h
    ·rename_i hk;split at h
     ·cases h
     ·rename_i qs hq;simp only [Option.some.injEq] at h;subst h;have hem:e∈log:=List.mem_of_getElem? he;have hkl:r.2.toNat < e.2.2.1.length:=by omega
      have ht:=hv e hem (e.2.2.1.getD r.2.toNat 0) (by
       rw [List.getD_eq_getElem?_getD,List.getElem?_eq_getElem hkl];exact List.getElem_mem hkl)
      simp only [CX,List.length_map,List.getElem?_map,he,Option.map_some];obtain ⟨c1,c2⟩:=not_or.1 hc;rw [if_neg (by rintro (h|h);exact c1 h;omega)];have hc2:(AE e).2.2.1=(e.2.2.1.length:Int):=rfl;simp only [hc2];rw [if_neg (by omega)];have L:=YM (e:=e) (k:=r.2) (by omega) (by omega);rw [hc2] at L;rw [if_pos L];exact aa hv rs _ _ hq
instance qS:Key prog 3 Int 1:=LH kr
instance nr:Key prog 59 Hd 3:=by
 refine Km (d:=2) underlying59 kr kr ?_;simp only [List.toList_toArray]
 haveI k6:KeyFs prog [] 66 Unit 0:=Lb
 exact Ds (d:=2) (d':=2) rfl kr (kb:=Ds (d:=2) (d':=2) rfl kr (kb:=Ds (d:=1) (d':=2) rfl kr (kb:=Ds (d:=2) (d':=2) rfl kr (kb:=Ds (d:=2) (d':=1) rfl kr (kb:=Ds (d:=1) (d':=0) rfl kr (kb:=k6))))))
instance nF:EqTy prog 59:=⟨by kernel_rfl,by kernel_rfl,by kernel_rfl⟩
instance p9:DecidableEq Hd:=@instDecidableEqProd _ _ inferInstance (@instDecidableEqProd _ _ inferInstance (@instDecidableEqProd _ _ inferInstance (@instDecidableEqProd Dg (Dg×Int×Unit) inferInstance inferInstance)))
abbrev Ky:=Int×Int×Unit
abbrev Kz (k:Ky):List Value:=[.int .i64 k.1,.int .i64 k.2.1]
abbrev ji (k:Ky):Value:=.agg (Kz k).toArray
structure UG (k:Ky):Prop where
 a:Au k.1
 b:Au k.2.1
theorem lm {S k} (h:UG k):Z.R S (Kz k) k:=AG (cs:=[_]) ⟨rfl,h.a⟩ (AG (cs:=[_]) ⟨rfl,h.b⟩ CM)
instance nq:Key prog 105 Ky 2:=by
 refine Km (d:=1) underlying105 kr kr ?_;simp only [List.toList_toArray]
 haveI k2:KeyFs prog [] 2 Unit 0:=Lb
 exact Ds (d:=1) (d':=1) rfl kr (kb:=Ds (d:=1) (d':=0) rfl kr (kb:=k2))
instance nE:EqTy prog 105:=⟨by kernel_rfl,by kernel_rfl,by kernel_rfl⟩
instance oI:MapT prog 156 105 4:=⟨underlying156⟩
def I3 (ks:List Ky):List (Ky×Value):=ks.map fun k=>(k,.bool true)
theorem RW (ks k):BD (I3 ks) k=if k∈ks then some (.bool true) else none:=by
 induction ks with
 | nil=>rfl
 | cons x ks ih =>
  unfold BD I3 at *;rw [List.map_cons,List.find?_cons];by_cases h:k=x
  ·simp [h]
  ·have h2:¬ (k=x):=h;simp only [h,decide_false,List.mem_cons,false_or];exact ih
theorem Ya (ks k):(BD (I3 ks) k).getD (.bool false)=.bool (decide (k∈ks)):=by
 rw [RW];by_cases h:k∈ks<;>simp [h]
theorem Vu (ks k):I3 (ks++[k])=I3 ks++[(k,.bool true)]:=by simp [I3]
def Ua (ks:List Ky) (k:Nat) (vs:List Value):Prop:=∃ x,ks[k]? = some x∧vs=[ji x]
def iR (ks:List Ky) (k:Nat) (vs:List Value):Prop:=∃ x,ks[k]? = some x∧vs=[ji x,.bool (!decide (x∈ks.take k))]
def f0 (ks:List Ky) (k:Nat):Prop:=∃ x,ks[k]? = some x∧x ∉ ks.take k
theorem NG {S M} (w) (V:St S M w) (kv) (h1:kv.oneCell'=true):
  Ac prog 41 [kv] w fun v w'=>∃ b,v=.func (.func 78) #[] #[.pointer (some ⟨b,0,none⟩)]∧St S (.box b [kv] 154::M) w':=by
 unfold Ac;go_enter func41,ntmps41;repeat' (first|(apply O ();go_step)|(apply sC ();clear V;intro bx w V)|fail)
 refine GP rfl (A8 rfl) ?_;(try simp only [AV,List.drop_zero,List.drop_succ_cons,List.take_succ_cons,List.take_zero,AB,Ap])
 change St S (.box _ kv.cells.toList _::M) w at V
 rw [Go.Sl.CS h1] at V;exact ⟨_,rfl,_,rfl,V⟩
theorem Mi {S gf lb} (hb:Body prog gf) {ks} (hks:∀ k∈ks,UG k) {A} (hit:Hj prog S gf lb ks.length (Ua ks) (fun _=>True) A) (b):
  Hj prog S 78 [.pointer (some ⟨b,0,none⟩)] ks.length (iR ks) (f0 ks) (fun k=>.box b [.func (.func gf) #[] lb.toArray] 154::A k):=by
 intro l Jqq Xqq hY S1 M w hS1 hJ V
 refine Ac.mono (post:=fun v w'=>∃ S'' M',S1.Le S''∧((Jqq ks.length S'' M'∧St S'' ((.box b [.func (.func gf) #[] lb.toArray] 154::A ks.length)++M') w')∨(Xqq S'' M'∧∃ k,k < ks.length∧St S'' ((.box b [.func (.func gf) #[] lb.toArray] 154::A k)++M') w')))
  (post':=fun v w'=>∃ S'' M',S1.Le S''∧((Jqq ks.length S'' M'∧St S'' ((.box b [.func (.func gf) #[] lb.toArray] 154::A ks.length)++M') w')∨(Xqq S'' M'∧∃ k,k < ks.length∧St S'' ((.box b [.func (.func gf) #[] lb.toArray] 154::A k)++M') w'))) ?_ (fun v w' h=>h) |> fun h=>Calls.mono h fun e w' ⟨v,he,L⟩=>⟨⟨v,he⟩,L⟩
 refine Gz func78 rfl ?_;simp only [ntmps78,List.size_toArray,List.length_cons,List.length_nil,Nat.reduceAdd,Nat.reduceSub,Array.replicate_succ,Array.replicate_zero,List.push_toArray,List.append_toArray,List.nil_append,List.cons_append];simp only [List.cons_append] at V;repeat' ((apply ZZ 1);first|(apply O ();go_step)|(apply sC ();clear V;intro bx w V)|fail)
 refine wp_region_lit ?_;refine KQ V ?_;clear V;intro mb w V;apply nZ ();repeat' (first|(apply O ();go_step)|apply sY ()|(apply sT ();clear V;intro w V)|(apply sZ ();clear V;intro bk w V)|fail)
 rename Nat=>bk
 have hst0:=V.perm (G7 [_,_,_,_] (A 0) M)
 refine Vz (A:=A)
  (fun k T Nqq=>∃ es clock M1,Nqq=.box bk [.map (some mb)] 156::.obj mb (.map es clock)::.box bx [.func (.yield l) #[] #[]] 155::.box b [.func (.func gf) #[] lb.toArray] 154::M1∧BS T es.toList (I3 (ks.take k))∧Jqq k T M1)
  (fun T Nqq=>∃ es clock M1,Nqq=.box bk [.map (some mb)] 156::.obj mb (.map es clock)::.box bx [.func (.yield l) #[] #[]] 155::.box b [.func (.func gf) #[] lb.toArray] 154::M1∧Xqq T M1)
  hst0 ⟨#[],0,M,rfl,trivial,hJ⟩ rfl hb (hit.mono hS1) Y ?_ (by simp) (by simp) (by decide) ?_ ?_ ?_
 ·rintro k vs ⟨x,hx,rfl⟩;exact ⟨Kz x,rfl,rfl,rfl⟩
 ·clear V hst0;rintro r k b4 cs S2 M2 C w hk ⟨x,hx,hvs⟩ hS2 ⟨es,clock,M1,rfl,hmap,hJ1⟩ V;obtain rfl:cs=Kz x:=by have:=(List.cons.inj hvs).1;simpa using this
  have hxo:=hks x (List.mem_of_getElem? hx);have V:=V.perm (List.Perm.cons _ (TK (A k) [_,_,_,_] M1 C));simp only [List.cons_append,List.nil_append] at V;have hRx:Z.R S2 (Kz x) x:=lm hxo;have hlk:=Ya (ks.take k) x;simp only [List.set_cons_succ,List.set_cons_zero];generalize hqv:(!decide (x∈List.take k ks))=fr at *;repeat' ((fail_if_success (with_reducible show Code.wpIn _ _ _ (Code.region 4 _ _) _ _ _));first|with_reducible refine wpIn_seq ?_|with_reducible refine wpIn_block ?_|fail)
  refine HH (.inr ⟨_,rfl⟩) 6 V kr rfl kr ?_;simp only [List.take_succ_cons,List.take_zero,List.drop_succ_cons,List.drop_zero];refine CJ (AT rfl _ N.h Y rfl rfl) ?_;apply nZ ();refine CJ (AT rfl _ N.h Y rfl rfl) ?_;apply nZ ();refine CJ (AT rfl _ N.h Y rfl rfl) ?_;apply nZ ();refine CJ (AT rfl _ N.h Y rfl rfl) ?_;apply nZ ();refine CJ (CB X X Y Y kr Y Y Y hmap hRx false) ?_;simp only [Bool.false_eq_true,if_false,Ap,hlk];apply nZ ();refine CJ (P0 rfl) ?_;apply nZ ();refine G5 ?_;clear V;intro w V;have hst':=V.perm (TJ [_,_,_,_] [_] (A k) M1 C);have hnb:∀ y,ks[k]? = some y→y=x:=fun y hy=>by rw [hx] at hy;exact (Option.some.inj hy).symm
  refine Wn X rfl (J0 (hY k hk _ ⟨x,hx,rfl⟩ S2 M1 _ w (hS1.trans hS2) hJ1 hst')) ?_;clear V hst';rintro v w (⟨rfl,⟨y,hy,hny⟩,S3,M3,hS3,hJ3,V⟩|⟨rfl,S3,M3,hS3,hX3,V⟩)
  ·obtain rfl:=hnb y hy;have V:=V.perm (TJ [_,_,_,_] [_] (A k) M3 C).symm;simp only [List.cons_append,List.nil_append] at V;have hRx:=Z.mono hS3 hRx;have hmap:=hmap.mono hS3;have hno:BD (I3 (ks.take k)) y=none:=by rw [RW,if_neg hny]
   apply nZ ();refine E7 (.inr ⟨_,rfl⟩) Sj rfl ?_;repeat' (first|with_reducible refine Ek ?_|with_reducible refine GL ?_|with_reducible refine wpIn_skip ?_|with_reducible refine F0 ?_|with_reducible (refine MG X ?_)|(apply O ();go_step)|(apply tL ();refine Ag V (by first|exact BB X N.h Y FS|exact AT rfl _ N.h Y rfl rfl) ?_<;>apply nZ ())|fail)
   refine GM V X X X Y Y kr Y Y hmap hRx hno ?_;clear V;intro es' w hmap' V;apply nZ ();(try replace V:=nH V);repeat' (first|with_reducible refine Ek ?_|with_reducible refine Xr ?_|fail)
   refine .inl ⟨rfl,trivial,S3,_,hS3,⟨es',clock+1,M3,rfl,?_,hJ3⟩,?_⟩
   ·rw [List.take_succ_eq_append_getElem hk,Vu];have:ks[k]=y:=Option.some.inj ((List.getElem?_eq_getElem hk).symm.trans hx);rw [this];exact hmap'
   ·exact V.drop.perm (TK (A k) [_,_,_,_] M3 C).symm
  ·have V:=V.perm (TJ [_,_,_,_] [_] (A k) M3 C).symm;simp only [List.cons_append,List.nil_append] at V;apply nZ ();refine E7 (.inr ⟨_,rfl⟩) Sj rfl ?_;repeat' (first|with_reducible refine Ek ?_|with_reducible refine GL ?_|with_reducible refine Mj ?_|with_reducible refine KD ?_|with_reducible refine wpIn_ret ?_|with_reducible (refine Gp X ?_)|(apply O ();go_step)|fail)
   refine .inr ⟨rfl,S3,_,hS3,⟨es,clock,M3,rfl,hX3⟩,?_⟩;exact V.drop.perm (TK (A k) [_,_,_,_] M3 C).symm
 ·clear V hst0;rintro d S2 M2 w hS2 ⟨es,clock,M1,rfl,hmap,hJ1⟩ V;have V:=V.perm (List.Perm.cons _ (G7 (A ks.length) [_,_,_,_] M1));simp only [List.cons_append,List.nil_append] at V;repeat' (first|(apply O ();go_step)|fail)
  refine WE V rfl fun w' hst'=>⟨_,rfl,S2,M1,hS2,.inl ⟨hJ1,?_⟩⟩
  exact hst'.drop.drop.drop
 ·clear V hst0;rintro d k S2 M2 w hk hS2 ⟨es,clock,M1,rfl,hX1⟩ V;have V:=V.perm (List.Perm.cons _ (G7 (A k) [_,_,_,_] M1));simp only [List.cons_append,List.nil_append] at V;repeat' (first|(apply O ();go_step)|fail)
  refine VJ V rfl fun w' hst'=>⟨_,rfl,S2,M1,hS2,.inr ⟨hX1,k,hk,?_⟩⟩
  exact hst'.drop.drop.drop
instance nC:FlatC (Int×Int) (fun p=>[.int .i64 p.1,.int .i64 p.2]):=⟨fun {S cs x} h=>(MB (α:=Int) (β:=Int)).flat h⟩
def IL (p:Int×Int):Ky:=(p.1,p.2,())
theorem Of {ps:List (Int×Int)} {k:Nat} (h):(ps.map IL)[k]? = some (IL ps[k]):=by simp [h]
theorem Oa {S v} {ps:List (Int×Int)} (h:RSl S v ps):∀ p∈ps,Au p.1∧Au p.2:=fun p L=>by
 obtain ⟨cs,hR⟩:=N2 h p L;exact ⟨hR.2.1.2,hR.2.2.2⟩
theorem YP {S p} {ps:List (Int×Int)} (h:Pt S p ps):∀ p∈ps,Au p.1∧Au p.2:=by
 obtain ⟨b,o,c,T,fz,rfl,hb,v,hv,hl⟩:=h;exact Oa hl
theorem di {S} (ps:List (Int×Int)) (hm:ps.length≤1048576) (p) (hs:Pt S p ps):Hj prog S 40 [p] ps.length (Ua (ps.map IL)) (fun _=>True) (fun _=>[]):=by
 intro l Jqq Xqq hY S1 M w hS1 hJ V;have hs:=hs.mono hS1;have hps:=YP hs;simp only [List.nil_append] at V hY ⊢;go_enter func40,ntmps40;repeat' (first|(apply O ();go_step)|(apply tL ();refine An V (Aj X Ak Y) ?_;rintro v ⟨hvl,hv1⟩<;>apply nZ ())|apply sY ()|fail)
 go_loopw [7] (fun v wr=>∃ k S2 M2,k≤ps.length∧v=.int .i64 ((k:Nat):Int)∧S1.Le S2∧Jqq k S2 M2∧St S2 M2 wr) (fun v _=>ps.length - (intOf v).toNat)
 case atStart=>exact ⟨0,S1,M,Nat.zero_le _,rfl,Ad.Le.refl _,hJ,V⟩
 case round =>
  clear V;obtain ⟨k,S2,M2,hk,rfl,hS2,hJ2,V⟩:=hrel;have hvl:=hvl.mono hS2;by_cases hlt:k < ps.length
  ·have hpk:=hps ps[k] (List.getElem_mem hlt);repeat' ((apply ZZ 3);first|(apply O ();go_step)|apply sP ()|(apply sJ ();intro v L)|(apply sT ();clear V;intro w V)|(apply sZ ();clear V;intro bk w V)|fail)
   refine (wpIn_wide (n:=0)).1 (wpIn_region_lit (Oj 6 (.inl rfl) ?_ rfl ?_))
   ·with_unfolding_all (rintro ⟨a,w,⟨v,hv⟩,_⟩;cases hv)
   ·simp only [List.take_succ_cons,List.take_zero,List.drop_succ_cons,List.drop_zero];repeat' (first|(apply tI ();refine Ag V (A6 rfl rfl Y Y Af Af) ?_<;>apply nZ ())|(apply O ();go_step)|apply sY ()|fail)
    replace V:=V.drop;have hst':St S2 (M2++[]) w:=by rw [List.append_nil];exact V
    refine Lc (.inl rfl) X rfl (J0 (hY k hlt _ ⟨_,Of hlt,rfl⟩ S2 M2 [] w (hS1.trans hS2) hJ2 hst')) ?_;clear V hst';rintro v w (⟨rfl,-,S3,M3,hS3,hJ3,V⟩|⟨rfl,S3,M3,hS3,hX3,V⟩)
    ·rw [List.append_nil] at V;apply nZ ();refine E7 (.inl rfl) ?_ rfl ?_
     ·with_unfolding_all (rintro ⟨a,w,⟨v,hv⟩,_⟩;cases hv)
     ·repeat' (first|(apply O ();go_step)|fail)
      go_roundw
      case rel=>exact ⟨k+1,S3,M3,by omega,by go_num,hS2.trans hS3,hJ3,V⟩
      case measure=>simp [intOf];omega
    ·rw [List.append_nil] at V;apply nZ ();refine E7 (.inl rfl) ?_ rfl ?_
     ·with_unfolding_all (rintro ⟨a,w,⟨v,hv⟩,_⟩;cases hv)
     ·repeat' (first|(apply O ();go_step)|fail)
      refine bodyPost_ret (results_none rfl _ _ _) rfl ?_;exact ⟨⟨_,rfl⟩,S3,M3,hS2.trans hS3,.inr ⟨hX3,k,hlt,V⟩⟩
  ·obtain rfl:k=ps.length:=by omega
   repeat' (first|(apply O ();go_step)|fail)
   go_end0
   exact ⟨⟨_,rfl⟩,S2,M2,hS2,.inl ⟨hJ2,V⟩⟩
def Hw (p:Pn):Ky:=(p.1,p.2.1,())
theorem Oh {ps:List Pn} {k:Nat} (h):(ps.map Hw)[k]? = some (Hw ps[k]):=by simp [h]
def Uw (w:World) (b:Nat):Nat:=match w.cell? ⟨b,0,none⟩ with|some v=>(intOf v).toNat|none=>0
theorem QY {S M w} {b k:Nat} {T} (h:St S (.box b [.int .i64 (k:Int)] T::M) w):Uw w b=k:=by
 have hb:w.heap[b]? = some (.cells #[.int .i64 (k:Int)] T (0,0)):=h.at_ _ (.head _);have:w.cell? ⟨b,0,none⟩=some (.int .i64 (k:Int)):=by simp [World.cell?,hb]
 simp [Uw,this,intOf]
theorem ZN {S} (ev:Cz) (hm:ev.2.2.1.length≤1048576) (p) (hs:Pt S p ev) (bi):
  Hj prog S 83 [.pointer (some ⟨bi,0,none⟩),p] ev.2.2.1.length (Ua (ev.2.2.1.map Hw)) (fun _=>True) (fun k=>[.box bi [.int .i64 (k:Nat)] 3]):=by
 intro l Jqq Xqq hY S1 M w hS1 hJ V;have hs:=hs.mono hS1;simp only [List.cons_append,List.nil_append] at V hY ⊢;go_enter func83,ntmps83;repeat' (first|(apply O ();go_step)|fail)
 go_loopw [] (fun wr=>∃ k S2 M2,k≤ev.2.2.1.length∧S1.Le S2∧Jqq k S2 M2∧St S2 (.box bi [.int .i64 ((k:Nat):Int)] 3::M2) wr) (fun wr=>ev.2.2.1.length - Uw wr bi)
 case atStart=>exact ⟨0,S1,M,Nat.zero_le _,Ad.Le.refl _,hJ,V⟩
 case round =>
  clear V;obtain ⟨k,S2,M2,hk,hS2,hJ2,V⟩:=hrel;have hs:=hs.mono hS2;have hme:=QY V;by_cases hlt:k < ev.2.2.1.length
  ·have hkl:decide (((k:Nat):Int) < (ev.2.2.1.length:Int))=true:=decide_eq_true (by omega);repeat' ((apply ZZ 0);first|(apply O ();go_step)|fail)
   refine (wpIn_wide (n:=0)).1 (HH (.inl rfl) 20 V kr rfl kr ?_);simp only [List.take_succ_cons,List.take_zero,List.drop_succ_cons,List.drop_zero]
   repeat (((first|(with_reducible refine Sl.kq_guard ?_;(refine Sl.q_guard_yes rfl ?_))|(with_reducible refine Sl.kq_load ?_;(first|refine CJ (by exact AT rfl _ N.h Y rfl rfl) ?_|(refine Ju (Am X Ak Y) ?_;rintro v ⟨rfl,hI⟩)|(refine Ju (Aj X Ak Y) ?_;rintro v ⟨hvl,hv1⟩)))|(with_reducible refine Sl.kq_field ?_;(((refine Ju (As X Ak Y Y rfl) ?_);rintro v L;(try simp only [Int.toNat_natCast,Int.toNat_natCast_add_one,Int.reduceToNat] at L))))|(with_reducible refine Sl.kq_index ?_;(((refine Ju (Aq X Ak rfl Y Y Af Af) ?_);rintro v L;(try simp only [Int.toNat_natCast,Int.toNat_natCast_add_one,Int.reduceToNat] at L))))|(with_reducible refine Sl.kq_call ?_;(refine CJ (by exact EH X Ak Y) ?_))|(refine Sl.kq_plain rfl ?_;(first|(refine CJ (D6 rfl rfl Ak) ?_)|refine CJ (Dc (cs:=Kz (Hw ev.2.2.1[k])) Y Y rfl) ?_|refine CJ (by exact Dn X) ?_)))<;>apply nZ ()))
   refine G5 ?_;clear V;intro w V;have hst':St S2 ([.box bi [.int .i64 (k:Nat)] 3]++(M2++[])) w:=by rw [List.append_nil];exact V
   refine Ry rfl (Lc (.inl rfl) X rfl (J0 (hY k hlt _ ⟨_,Oh hlt,rfl⟩ S2 M2 [] w (hS1.trans hS2) hJ2 hst')) ?_);clear V hst';rintro v w (⟨rfl,-,S3,M3,hS3,hJ3,V⟩|⟨rfl,S3,M3,hS3,hX3,V⟩)
   ·rw [List.append_nil] at V;apply nZ ();refine E7 (.inl rfl) ?_ rfl ?_
    ·with_unfolding_all (rintro ⟨a,w,⟨v,hv⟩,_⟩;cases hv)
    ·repeat' (first|(apply O ();go_step)|apply sY ()|(apply sT ();clear V;intro w V)|fail)
     have hst2:St S3 (.box bi [.int .i64 ((k+1:Nat):Int)] 3::M3) w:=V;have hme2:=QY hst2;go_roundw
     case rel=>exact ⟨k+1,S3,M3,by omega,hS2.trans hS3,hJ3,hst2⟩
     case measure=>rw [hme,hme2];omega
   ·rw [List.append_nil] at V;apply nZ ();refine E7 (.inl rfl) ?_ rfl ?_
    ·with_unfolding_all (rintro ⟨a,w,⟨v,hv⟩,_⟩;cases hv)
    ·repeat' (first|(apply O ();go_step)|fail)
     go_end0
     exact ⟨⟨_,rfl⟩,S3,M3,hS2.trans hS3,.inr ⟨hX3,k,hlt,V⟩⟩
  ·obtain rfl:k=ev.2.2.1.length:=by omega
   have hkl:decide ((ev.2.2.1.length:Int) < (ev.2.2.1.length:Int))=false:=decide_eq_false (by omega);repeat' ((apply ZZ 0);first|(apply O ();go_step)|fail)
   refine Fv V kr kr ?_
   repeat (((first|(with_reducible refine Sl.kq_guard ?_;(refine Sl.q_guard_no rfl ?_))|(with_reducible refine Sl.kq_load ?_;(first|refine CJ (by exact AT rfl _ N.h Y rfl rfl) ?_|(refine Ju (Aj X Ak Y) ?_;rintro v ⟨hvl,hv1⟩)))|(with_reducible refine Sl.kq_field ?_;(((refine Ju (As X Ak Y Y rfl) ?_);rintro v L;(try simp only [Int.toNat_natCast,Int.toNat_natCast_add_one,Int.reduceToNat] at L))))|(with_reducible refine Sl.kq_call ?_;(refine CJ (by exact EH X Ak Y) ?_))|(refine Sl.kq_plain rfl ?_;(first|(refine CJ (D6 rfl rfl Ak) ?_)|refine CJ (by first|exact Dn X|exact KU rfl X) ?_)))<;>apply nZ ()))
   refine G5 ?_;clear V;intro w V;repeat' (first|(apply O ();go_step)|fail)
   go_end0
   exact ⟨⟨_,rfl⟩,S2,M2,hS2,.inl ⟨hJ2,V⟩⟩
theorem Kh:∀ (f:Nat) (l:List Dg) (i:Nat),∀ d∈Dh f l i,d.l.length=16
 | 0,_,_,d,h=>by cases h
 | f+1,l,i,d,h=>by
  rw [Dh] at h;split at h
  ·cases h
  ·split at h
   ·rcases List.mem_append.1 h with h|h
    ·exact Kh f _ _ d h
    ·obtain rfl:=List.mem_singleton.1 h;exact CA _
   ·rcases List.mem_append.1 h with h|h
    ·exact Kh f _ _ d h
    ·obtain rfl:=List.mem_singleton.1 h;exact CA _
theorem TG (l i):∀ d∈Bk l i,d.l.length=16:=Kh _ _ _
theorem Ki:∀ (f:Nat) (l:List Dg) (i:Nat),(Dh f l i).length≤f
 | 0,_,_=>by simp [Dh]
 | f+1,l,i=>by
  rw [Dh];split
  ·simp
  ·split
   ·have:=Ki f (l.take (Av l.length)) i;simp;omega
   ·have:=Ki f (l.drop (Av l.length)) (i - Av l.length);simp;omega
theorem If (l i):(Bk l i).length≤l.length:=Ki _ _ _
abbrev kJ (b7 b6:Nat) (u:Value) (c:List Dg) (M:List J):List J :=
 .sl u 23 16 c.length (cF EN c)::.box b7 [.func (.func 79) #[] #[.pointer (some ⟨b7,0,none⟩),.pointer (some ⟨b6,0,none⟩)]] 157::.box b6 [u] 61::M
theorem eB:∀ (m:Nat) {S M} (w:World) (b7 b6:Nat) (u:Value) (c:List Dg) (_hst:St S (kJ b7 b6 u c M) w) (_hG:Bu S) (vl:Value) (l:List Dg) (_hl:RSl S vl l) (i:Nat) (_hi:i < l.length) (_hm:l.length≤m) (_hm2:m≤1000) (_hc:c.length+l.length≤2000),
  Ac prog 79 [vl,.int .i64 (i:Int),.pointer (some ⟨b7,0,none⟩),.pointer (some ⟨b6,0,none⟩)] w fun _ w'=>∃ u',St S (kJ b7 b6 u' (c++Bk l i) M) w':=by
 intro m
 induction m with
 | zero=>intro S M w b7 b6 u c V hG vl l hl i hi hm;omega
 | succ m ih =>
  intro S M w b7 b6 u c V hG vl l hl i hi hm hm2 hc;by_cases h1:l.length=1
  ·have L:=TF (l:=l) (by omega) i;have Hp:=Lib.hid L;clear L;have h11:1≤l.length∧l.length≤1:=by omega
   clear h1;unfold Ac;go_enter func79,ntmps79;repeat' (first|(apply O ();go_step)|apply sY ()|fail)
   refine bodyPost_ret (results_none rfl _ _ _) rfl ?_;exact ⟨_,rfl,u,by rw [Hp.out,List.append_nil];exact V⟩
  ·have h2:2≤l.length:=by omega
   obtain ⟨hs1,hs2⟩:=Cs h2;have hsp:=fun {S M} (w:World) (V:St S M w)=>N0 w V l.length h2 (by omega)
   have hL:=Lib.hid (fun h=>L6 (i:=i) h2 h);have hR:=Lib.hid (fun h=>KY (i:=i) h2 h);have hlen1:(l.take (Av l.length)).length≤m∧(l.take (Av l.length)).length=Av l.length:=by rw [List.length_take];omega
   have hlen2:(l.drop (Av l.length)).length≤m∧(l.drop (Av l.length)).length=l.length - Av l.length:=by rw [List.length_drop];omega
   have E9:Hid ((l.drop (Av l.length)).take (l.length - Av l.length)=l.drop (Av l.length)):=Lib.hid (List.take_of_length_le (by rw [List.length_drop];exact Nat.le_refl _));obtain ⟨l1,e1⟩:=hlen1;obtain ⟨l2,e2⟩:=hlen2;have E1:=Lib.hid e1;have E2:=Lib.hid e2;have l1':i < Av l.length→i < (l.take (Av l.length)).length:=fun h=>by omega
   have l2':¬ i < Av l.length→i - Av l.length < (l.drop (Av l.length)).length:=fun h=>by omega
   have cn1:=If (l.take (Av l.length)) i;have cn2:=If (l.drop (Av l.length)) (i - Av l.length);have cc1:c.length+(l.take (Av l.length)).length≤2000:=by omega
   have cc2:c.length+(l.drop (Av l.length)).length≤2000:=by omega
   clear e1 e2 h1;generalize hk:Av l.length=k at *;have Hk:=Lib.hid hk;clear hk;unfold Ac;by_cases hik:i < k
   ·go_enter func79,ntmps79;repeat' (first|(apply O ();go_step)|(apply kc ();refine sc (hsp _ V) ?_;clear V;rintro v w ⟨rfl,V⟩)|apply sY ()|fail)
    refine AD V kr ?_;clear V;intro ops;apply nZ ();refine td 0 rfl ?_;refine td 1 rfl ?_;refine td 2 rfl ?_
    ((refine BN 3 rfl kr rfl rfl (fun w V=>F9 (a:=0) (b:=k) X hl Y Y (.inl ⟨rfl,rfl⟩) (.inr ⟨.i64,by simp [Ai,AV]⟩) (.inr ⟨.i64,k,by simp [Ai,AV],by omega,by omega,rfl⟩) (by omega) (by omega) ) ?_;rintro  v3 hv3))<;>apply nZ ()
    refine td 4 rfl ?_;refine td 5 rfl ?_;refine td 6 rfl ?_;refine td 7 rfl ?_
    ((refine BN 8 rfl kr rfl rfl (fun w V=>F9 (a:=k) (b:=l.length) X hl Y Y (.inr ⟨.i64,by simp [Ai,AV]⟩) (.inr ⟨.i64,by simp [Ai,AV]⟩) (.inr ⟨.i64,l.length,by simp [Ai,AV],by omega,by omega,rfl⟩) (by omega) (by omega) ) ?_;rintro  v8 hv8))<;>apply nZ ()
    refine td 9 rfl ?_;refine td 10 rfl ?_;refine AJ kr ?_;clear ops;intro w V;replace hv3:RSl S v3 (l.take k):=hv3;rw [E9.out] at hv8;repeat' (first|(apply O ();go_step)|apply sY ()|fail)
    refine Eh (ih _ b7 b6 u c V hG v3 (l.take k) hv3 i (l1' hik) l1 (by omega) cc1) rfl Y rfl rfl ?_;clear V;rintro v w ⟨u',V⟩;refine nY ?_;repeat' (first|(apply O ();go_step)|fail)
    have hcl:(c++Bk (l.take k) i).length≤3000:=by rw [List.length_append];omega
    have hu':=Go.Sl.AY V;have HC:=Lib.hid (show c++Bk l i=(c++Bk (l.take k) i)++[Cg (l.drop k)] by rw [hL.out hik,List.append_assoc]);clear cn1 cn2;generalize c++Bk (l.take k) i=c1 at *;refine AD V kr ?_;clear V;intro ops;apply nZ ();refine td 0 rfl ?_;refine td 1 rfl ?_;(refine AQ 2 rfl kr rfl (fun S' M' w hS hM V=>PV (l.drop k).length w V (hG.mono hS) v8 (l.drop k) (hv8.mono hS) (Nat.le_refl _) (by omega)) Y rfl ?_)<;>apply nZ ()
    refine AP 3 rfl kr ?_;intro w V K G;refine Ay (vs:=[Cu (Cg (l.drop k))]) V Y Y rfl rfl (by simp [Value.cells,Bh,CA]) rfl (by omega) (by omega) ?_;clear V;intro x3 w V;apply nZ ();(try replace V:=nH V);refine Bg G V (Ad.Le.refl _) (Suf.cons (Suf.refl _)) ?_;clear V G K;(try clear w);apply nZ ();refine AP 4 rfl kr ?_;intro w V K G;refine AF (j:=0) V X X SlIn.h rfl Y Y Y ((by simpa [Value.cells] using Fh (Cg (l.drop k)).l)) (by omega) (by omega) (by decide) ?_;clear V;intro x4 w V;apply nZ ();(try replace V:=nH V);replace V:=V.drop;have hone4:=Go.Sl.AY V;refine Bb G V ?_;clear V G K;(try clear w);apply nZ ();refine AP 5 rfl kr ?_;intro w V K G;(refine Go.Sl.G2 V rfl N.h X Ak Y (by simp<;>omega) ?_);clear V;intro w V;apply nZ ();(try replace V:=nH V);refine Bb G V ?_;clear V G K;(try clear w);apply nZ ();refine AJ kr ?_;clear ops;intro w V;repeat' (first|(apply O ();go_step)|fail)
    refine bodyPost_ret (results_none rfl _ _ _) rfl ?_;apply jB ()
   ·go_enter func79,ntmps79;repeat' (first|(apply O ();go_step)|(apply kc ();refine sc (hsp _ V) ?_;clear V;rintro v w ⟨rfl,V⟩)|apply sY ()|fail)
    refine AD V kr ?_;clear V;intro ops;apply nZ ();refine td 0 rfl ?_;refine td 1 rfl ?_;refine td 2 rfl ?_
    ((refine BN 3 rfl kr rfl rfl (fun w V=>F9 (a:=0) (b:=k) X hl Y Y (.inl ⟨rfl,rfl⟩) (.inr ⟨.i64,by simp [Ai,AV]⟩) (.inr ⟨.i64,k,by simp [Ai,AV],by omega,by omega,rfl⟩) (by omega) (by omega) ) ?_;rintro  v3 hv3))<;>apply nZ ()
    refine td 4 rfl ?_;refine td 5 rfl ?_;refine td 6 rfl ?_;refine td 7 rfl ?_
    ((refine BN 8 rfl kr rfl rfl (fun w V=>F9 (a:=k) (b:=l.length) X hl Y Y (.inr ⟨.i64,by simp [Ai,AV]⟩) (.inr ⟨.i64,by simp [Ai,AV]⟩) (.inr ⟨.i64,l.length,by simp [Ai,AV],by omega,by omega,rfl⟩) (by omega) (by omega) ) ?_;rintro  v8 hv8))<;>apply nZ ()
    refine td 9 rfl ?_;refine td 10 rfl ?_;refine AJ kr ?_;clear ops;intro w V;replace hv3:RSl S v3 (l.take k):=hv3;rw [E9.out] at hv8;have hik':((i:Int) - (k:Int))=((i - k:Nat):Int):=by omega
    repeat' (first|(apply O ();go_step)|apply sY ()|fail)
    have HI:=Lib.hid hik';clear hik';refine Eh (ih _ b7 b6 u c V hG v8 (l.drop k) hv8 (i - k) (l2' hik) l2 (by omega) cc2) rfl Y rfl rfl ?_;clear V;rintro v w ⟨u',V⟩;refine nY ?_;repeat' (first|(apply O ();go_step)|fail)
    have hcl:(c++Bk (l.drop k) (i - k)).length≤3000:=by rw [List.length_append];omega
    have hu':=Go.Sl.AY V;have HC:=Lib.hid (show c++Bk l i=(c++Bk (l.drop k) (i - k))++[Cg (l.take k)] by rw [hR.out hik,List.append_assoc]);clear cn1 cn2;generalize c++Bk (l.drop k) (i - k)=c1 at *;refine AD V kr ?_;clear V;intro ops;apply nZ ();refine td 0 rfl ?_;refine td 1 rfl ?_;(refine AQ 2 rfl kr rfl (fun S' M' w hS hM V=>PV (l.take k).length w V (hG.mono hS) v3 (l.take k) (hv3.mono hS) (Nat.le_refl _) (by omega)) Y rfl ?_)<;>apply nZ ()
    refine AP 3 rfl kr ?_;intro w V K G;refine Ay (vs:=[Cu (Cg (l.take k))]) V Y Y rfl rfl (by simp [Value.cells,Bh,CA]) rfl (by omega) (by omega) ?_;clear V;intro x3 w V;apply nZ ();(try replace V:=nH V);refine Bg G V (Ad.Le.refl _) (Suf.cons (Suf.refl _)) ?_;clear V G K;(try clear w);apply nZ ();refine AP 4 rfl kr ?_;intro w V K G;refine AF (j:=0) V X X SlIn.h rfl Y Y Y ((by simpa [Value.cells] using Fh (Cg (l.take k)).l)) (by omega) (by omega) (by decide) ?_;clear V;intro x4 w V;apply nZ ();(try replace V:=nH V);replace V:=V.drop;have hone4:=Go.Sl.AY V;refine Bb G V ?_;clear V G K;(try clear w);apply nZ ();refine AP 5 rfl kr ?_;intro w V K G;(refine Go.Sl.G2 V rfl N.h X Ak Y (by simp<;>omega) ?_);clear V;intro w V;apply nZ ();(try replace V:=nH V);refine Bb G V ?_;clear V G K;(try clear w);apply nZ ();refine AJ kr ?_;clear ops;intro w V;repeat' (first|(apply O ();go_step)|fail)
    go_end0
    apply jB ()
end Go.Proofs.YtmmbidoldegemaaGreatDoor
