/- Part 15 of the proof that the law of the last part holds; no conditions. -/
import Derived.Test.YtmmbidoldegemaaGreatDoorZ13
set_option linter.unusedSimpArgs false
set_option linter.unusedVariables false
set_option maxRecDepth 8000
set_option maxHeartbeats 8000000
namespace Go.Proofs.YtmmbidoldegemaaGreatDoor
open Go.RowKit Go.Sl
theorem i8 {S:Ac} {v:Value} {x:List UInt8} (h:RSl S v x):RL S [v] [x]:=by
 refine ⟨rfl,fun i y hy=>?_⟩
 match i,hy with
 | 0,hy=>cases hy;exact ⟨v,rfl,h⟩
theorem i7 {S:Ac} {v u:Value} {x y:List UInt8} (h:RSl S v x) (k:RSl S u y):RL S [v,u] [x,y]:=by
 refine ⟨rfl,fun i z hz=>?_⟩
 match i,hz with
 | 0,hz=>cases hz;exact ⟨v,rfl,h⟩
 | 1,hz=>cases hz;exact ⟨u,rfl,k⟩
theorem dK {S:Ac} {M:List Chunk} {w:World} {v u:Value} {T:TypeId} {x:List UInt8} (h:St S (.sl v T 1 1 [u]::M) w) (hu:RSl S u x):∃ S',S.Le S'∧St S' M w∧RSl S' v [x] :=
 St.freeze (α:=List UInt8) h (i8 hu) rfl
theorem dJ {S:Ac} {M:List Chunk} {w:World} {v u u':Value} {T:TypeId} {x y:List UInt8} (h:St S (.sl v T 1 2 [u,u']::M) w) (hu:RSl S u x) (hu':RSl S u' y):∃ S',S.Le S'∧St S' M w∧RSl S' v [x,y] :=
 St.freeze (α:=List UInt8) h (i7 hu hu') rfl
theorem PM {S:Ac} {M:List Chunk} {w:World} {b:Nat} {T:TypeId} {d:Dg} (h:St S (.box b (u8s d.l) T::M) w) (hl:d.l.length=16):∃ S',S.Le S'∧St S' M w∧Pt S' (.pointer (some ⟨b,0,none⟩)) d :=
 AC (α:=Dg) (x:=d) h (by exact ⟨hl,KL d.l⟩) (by rw [A8,hl];rfl)
theorem Kj (d:Dg):(Dk d).l.length=16:=Ch _ _
theorem Kf (a b:Dg):(FA a b).l.length=16:=Ch _ _
theorem ME:PK.l.length=16:=Ch _ _
abbrev Cu (d:Dg):Value:=.agg (u8s d.l).toArray
theorem Uz:∀ (f:Nat) (l:List Dg),(FY f l).l.length=16
 | f,[]=>by cases f<;>exact ME
 | f,[d]=>by cases f<;>exact Kj d
 | 0,a::b::r=>ME
 | f+1,a::b::r=>by rw [FY];exact Kf _ _;all_goals simp
theorem Cm (l:List Dg):(B0 l).l.length=16:=Uz _ _
instance la {t:Int} {p:List (List UInt8)}:LenIs (Dq t p) 16:=⟨Ch _ _⟩
instance jQ {d:Dg}:LenIs (Dk d).l 16:=⟨Kj _⟩
instance jP {a b:Dg}:LenIs (FA a b).l 16:=⟨Kf _ _⟩
theorem MY {S M} (w:World) (hst:St S M w) (n:Nat) (h2:2≤n) (hm:n≤1048576) :
  Ad Tryz.prog 80 [.int .i64 (n:Int)] w fun v w'=>v=.int .i64 (At n:Nat)∧St S M w':=by
 unfold Ad;go_enter Tryz.func80,Tryz.ntmps80;repeat' (first|(apply gK ();go_step)|fail)
 go_loopw [3] (fun v wr=>∃ (k:Nat),1≤k∧k < n∧v=.int .i64 k∧Hid (D3 n n k=At n)∧St S M wr) (fun v _=>n - (intOf v).toNat)
 case atStart=>exact ⟨1,by omega,by omega,rfl,Lib.hid rfl,hst⟩
 case round =>
  clear hst;obtain ⟨k,h1,hk,rfl,hs,hst⟩:=hrel;by_cases hlt:2 * k < n
  ·repeat' (first|(apply gK ();go_step)|fail)
   go_roundw
   case rel=>exact ⟨2 * k,by omega,hlt,by go_num,Lib.hid (by rw [← hs.out,Ub n n k hlt (by omega)];exact K6 _ _ _ _ (by omega) (by omega) (by omega)),hst⟩
   case measure=>simp [intOf];omega
  ·repeat' (first|(apply gK ();go_step)|fail)
   go_ret;refine ⟨_,rfl,?_,hst⟩;rw [← hs.out,Fp hlt];rfl
theorem U3 {S M} (w:World) (hst:St S M w) (hG:Bo S) (d:Dg) (hd:d.l.length=16) :
  Ad Tryz.prog 124 [Cu d] w fun v w'=>v=Cu (Dk d)∧St S M w':=by
 unfold Ad;go_enter Tryz.func124,Tryz.ntmps124;repeat' ((apply Z1 ());first|(apply gK ();go_step)|(apply sC ();clear hst;intro bx w hst)|(apply sZ ();clear hst;intro bk w hst)|fail)
 obtain ⟨S1,hS1,hst,hpd⟩:=PM hst.swap hd;refine wp_region_lit ?_;refine An hst (Fb (a:=0) (b:=16) Ab hpd Aa Aa (.inl ⟨rfl,rfl⟩) (.inl ⟨rfl,rfl⟩) (by omega) (by omega) (by unfold maxLen;omega)) ?_;rintro v hv;rw [List.drop_zero,List.take_of_length_le (by omega)] at hv;have hv1:=hv.oneCell;refine nY ?_;refine AA (vs:=[v]) hst Aa Aa rfl rfl (by simp [GD hv1]) rfl (by omega) (by omega) ?_;clear hst;intro x w hst;simp only [List.map_cons,List.map_nil,CD hv1,List.flatten_cons,List.flatten_nil,List.append_nil] at hst;obtain ⟨S2,hS2,hst,hx⟩:=dK hst hv;refine nY ?_;repeat' (first|(with_reducible refine kS ?_;refine FX hst rfl BoxIn.h Aa Ab Aa H6 ?_;clear hst;intro w hst<;>(try refine nY ?_)<;>(try replace hst:=nH hst))|(apply gK ();go_step)|(apply kc ();refine sc (EG _ hst ((hG.mono hS1).mono hS2) 1 (by omega) _ _ hx (by simp [CF];omega)) ?_;clear hst;rintro v w ⟨rfl,hst⟩)|fail)
 exact Jr rfl hst rfl BoxIn.h Aa Aa ⟨_,rfl,rfl,St.weaken (hS1.trans hS2) hst.drop⟩
theorem Nc {S M} (w:World) (hst:St S M w) (hG:Bo S) (a b:Dg) (ha:a.l.length=16) (hb:b.l.length=16) :
  Ad Tryz.prog 125 [Cu a,Cu b] w fun v w'=>v=Cu (FA a b)∧St S M w':=by
 unfold Ad;go_enter Tryz.func125,Tryz.ntmps125;repeat' ((apply Z1 ());first|(apply gK ();go_step)|(apply sC ();clear hst;intro bx w hst)|(apply sZ ();clear hst;intro bk w hst)|fail)
 obtain ⟨S1,hS1,hst,hpb⟩:=PM (hst.perm (List.Perm.swap _ _ _)) hb;obtain ⟨S2,hS2,hst,hpa⟩:=PM hst.swap ha;replace hpb:=hpb.mono hS2;have hG2:=(hG.mono hS1).mono hS2;refine AF hst kr ?_;clear hst;intro ops;(try refine nY ?_)
 ((refine Bz 0 rfl kr rfl rfl (fun w hst=>Fb (a:=0) (b:=16) Ab hpa Aa Aa (.inl ⟨rfl,rfl⟩) (.inl ⟨rfl,rfl⟩) (by omega) (by omega) (by unfold maxLen;omega) ) ?_;rintro  v5 hv5))<;>(try refine nY ?_)
 ((refine Bz 1 rfl kr rfl rfl (fun w hst=>Fb (a:=0) (b:=16) Ab hpb Aa Aa (.inl ⟨rfl,rfl⟩) (.inl ⟨rfl,rfl⟩) (by omega) (by omega) (by unfold maxLen;omega) ) ?_;rintro  v6 hv6))<;>(try refine nY ?_)
 refine AR 2 rfl kr ?_;intro w hst K hK;(rw [List.drop_zero,List.take_of_length_le (by omega)] at hv5 hv6;refine AA (vs:=[v5,v6]) hst Aa Aa rfl rfl (by simp [GD hv5.oneCell,GD hv6.oneCell]) rfl (by omega) (by omega) ?_;clear hst;intro x2 w hst;simp only [List.map_cons,List.map_nil,CD hv5.oneCell,CD hv6.oneCell,List.flatten_cons,List.flatten_nil,List.append_nil,List.cons_append,List.nil_append] at hst;obtain ⟨S3,hS3,hst,hx⟩:=dJ hst hv5 hv6);(try refine nY ?_);(try replace hst:=nH hst);refine Bn hK hst hS3 (Suf.refl _) ?_;clear hst hK K;(try clear w);(try refine nY ?_);(refine Ba 3 rfl kr rfl (fun S' M' w hS hM hst=>EG w hst ((hG2.mono hS3).mono hS) 2 (by omega) _ _ (hx.mono hS) (by simp [CF];omega)) Aa rfl ?_)<;>(try refine nY ?_)
 refine AR 4 rfl kr ?_;intro w hst K hK;(refine FX hst rfl BoxIn.h Aa Ab Aa H6 ?_);clear hst;intro w hst;(try refine nY ?_);(try replace hst:=nH hst);refine Bb hK hst ?_;clear hst hK K;(try clear w);(try refine nY ?_);refine AK kr ?_;clear ops;intro w hst;repeat' (first|(apply gK ();go_step)|fail)
 apply eR ()
theorem QV {S M} (w:World) (hst:St S M w) (hG:Bo S) (vl:Value) (l:List Dg) (hl:RSl S vl l) (h0:l.length=0) :
  Ad Tryz.prog 81 [vl] w fun v w'=>v=Cu (B0 l)∧St S M w':=by
 unfold Ad;obtain rfl:=List.eq_nil_of_length_eq_zero h0;have hnil:RSl S (.slice none 0 0) ([]:List (List UInt8)):=.inl ⟨none,0,rfl,rfl,by unfold maxLen;omega⟩;go_enter Tryz.func81,Tryz.ntmps81;repeat' (first|(with_reducible refine kS ?_;refine FX hst rfl BoxIn.h Aa Ab Aa H6 ?_;clear hst;intro w hst<;>(try refine nY ?_)<;>(try replace hst:=nH hst))|(apply gK ();go_step)|(apply kc ();refine sc (EG _ hst hG 1 (by omega) _ _ hnil (by simp [CF])) ?_;clear hst;rintro v w ⟨rfl,hst⟩)|apply sY ()|(apply sZ ();clear hst;intro bk w hst)|fail)
 exact Jr rfl hst rfl BoxIn.h Aa Aa ⟨_,rfl,rfl,hst.drop⟩
theorem Zu {S M} (w:World) (hst:St S M w) (hG:Bo S) (vl:Value) (l:List Dg) (hl:RSl S vl l) (h1:l.length=1) :
  Ad Tryz.prog 81 [vl] w fun v w'=>v=Cu (B0 l)∧St S M w':=by
 unfold Ad;have h11:1≤l.length∧l.length≤1:=by omega
 have h0l:0 < l.length:=by omega
 clear h1;have hd:=hl.dgs (l[0]'h0l) (List.getElem_mem h0l)
 have hE:Hid (B0 l=Dk (l[0]'h0l)):=Lib.hid (by
  obtain ⟨d,rfl⟩:=List.length_eq_one_iff.1 (show l.length=1 by omega);rfl)
 go_enter Tryz.func81,Tryz.ntmps81;repeat' (first|(with_reducible refine kS ?_;refine FX hst rfl BoxIn.h Aa Ab Aa H6 ?_;clear hst;intro w hst<;>(try refine nY ?_)<;>(try replace hst:=nH hst))|(apply gK ();go_step)|(apply kc ();refine sc (U3 _ hst hG l[0] hd) ?_;clear hst;rintro v w ⟨rfl,hst⟩)|apply sY ()|apply sP ()|(apply sJ ();intro v hp)|(apply sZ ();clear hst;intro bk w hst)|fail)
 exact Jr rfl hst rfl BoxIn.h Aa Aa ⟨_,rfl,by rw [hE.out],hst.drop⟩
theorem OS:∀ (m:Nat) {S M} (w:World) (_hst:St S M w) (_hG:Bo S) (vl:Value) (l:List Dg) (_hl:RSl S vl l) (_hm:l.length≤m) (_hm2:m≤1048576),
  Ad Tryz.prog 81 [vl] w fun v w'=>v=Cu (B0 l)∧St S M w':=by
 intro m
 induction m with
 | zero=>exact fun w hst hG vl l hl h0 h1=>QV w hst hG vl l hl (by omega)
 | succ m ih =>
  intro S M w hst hG vl l hl hm hm2;by_cases h0:l.length=0
  ·exact QV w hst hG vl l hl h0
  ·by_cases h1:l.length=1
   ·exact Zu w hst hG vl l hl h1
   ·have h2:2≤l.length:=by omega
    obtain ⟨hs1,hs2⟩:=Cd h2;have hE:=Lib.hid (NR h2);have hlen1:(l.take (At l.length)).length≤m:=by rw [List.length_take];omega
    have hlen2:(l.drop (At l.length)).length≤m:=by rw [List.length_drop];omega
    have hsp:=fun {S M} (w:World) (hst:St S M w)=>MY w hst l.length h2 (by omega)
    have hl20:l.length≤1048576:=by omega
    have e9:(l.drop (At l.length)).take (l.length - At l.length)=l.drop (At l.length):=List.take_of_length_le (by rw [List.length_drop];exact Nat.le_refl _);have E9:=Lib.hid e9;clear h0 h1 e9;generalize hk:At l.length=k at *;have Hk:=Lib.hid hk;clear hk;unfold Ad;go_enter Tryz.func81,Tryz.ntmps81;repeat' (first|(apply gK ();go_step)|(apply kc ();refine sc (hsp _ hst) ?_;clear hst;rintro v w ⟨rfl,hst⟩)|apply sY ()|(apply sZ ();clear hst;intro bk w hst)|fail)
    refine AF hst kr ?_;clear hst;intro ops;(try refine nY ?_);refine td 0 rfl ?_;refine td 1 rfl ?_;refine td 2 rfl ?_
    ((refine Bz 3 rfl kr rfl rfl (fun w hst=>DF (a:=0) (b:=k) Ab hl Aa Aa (.inl ⟨rfl,rfl⟩) (.inr ⟨.i64,by simp [Ai,AX]⟩) (.inr ⟨.i64,k,by simp [Ai,AX],by omega,by omega,rfl⟩) (by omega) (by omega) ) ?_;rintro  v3 hv3))<;>(try refine nY ?_)
    (refine Ba 4 rfl kr rfl (fun S' M' w hS hM hst=>ih w hst (hG.mono hS) v3 (l.take k) (hv3.mono hS) hlen1 (by omega)) Aa rfl ?_)<;>(try refine nY ?_)
    refine td 5 rfl ?_;refine td 6 rfl ?_;refine td 7 rfl ?_;refine td 8 rfl ?_
    ((refine Bz 9 rfl kr rfl rfl (fun w hst=>DF (a:=k) (b:=l.length) Ab hl Aa Aa (.inr ⟨.i64,by simp [Ai,AX]⟩) (.inr ⟨.i64,by simp [Ai,AX]⟩) (.inr ⟨.i64,l.length,by simp [Ai,AX],by omega,by omega,rfl⟩) (by omega) (by omega) ) ?_;rintro  v9 hv9))<;>(try refine nY ?_)
    (refine Ba 10 rfl kr rfl (fun S' M' w hS hM hst=>ih w hst (hG.mono hS) v9 (l.drop k) (by have:=hv9.mono hS;rwa [E9.out] at this) hlen2 (by omega)) Aa rfl ?_)<;>(try refine nY ?_)
    (refine Ba 11 rfl kr rfl (fun S' M' w hS hM hst=>Nc w hst (hG.mono hS) _ _ (Cm _) (Cm _)) Aa rfl ?_)<;>(try refine nY ?_)
    refine AR 12 rfl kr ?_;intro w hst K hK;(refine FX hst rfl BoxIn.h Aa Ab Aa H6 ?_);clear hst;intro w hst;(try refine nY ?_);(try replace hst:=nH hst);refine Bb hK hst ?_;clear hst hK K;(try clear w);(try refine nY ?_);refine AK kr ?_;clear ops;intro w hst;repeat' (first|(apply gK ();go_step)|fail)
    exact Jr rfl hst rfl BoxIn.h Aa Aa ⟨_,rfl,by rw [hE.out],hst.drop⟩
theorem Yd (xs:List Int):(Ku xs).length≤10+10 * xs.length:=by
 have:=PD xs;have:=C8 xs.length;unfold Ku;rw [List.length_append];omega
def BK (i took:Int):Dg:=⟨Dq 10 [Bm i,Bm took]⟩
def Mp (i n:Int):Dg:=⟨Dq 8 [Bm i,Bm n]⟩
theorem GP (i t:Int):(BK i t).l.length=16:=Ch _ _
theorem N2 (i t:Int):(Mp i t).l.length=16:=Ch _ _
theorem R4 {a b:List UInt8} {n m:Nat} (ha:a.length≤n) (hb:b.length≤m):CF [a,b]≤n+m+20:=by simp [CF];omega
theorem fw {a:List UInt8} {n:Nat} (ha:a.length≤n):CF [a]≤n+10:=by simp [CF];omega
theorem Na {S M} (w:World) (hst:St S M w) (hG:Bo S) (i t:Int) (hi:Au i) (ht:Au t) :
  Ad Tryz.prog 76 [.int .i64 i,.int .i64 t] w fun v w'=>v=Cu (BK i t)∧St S M w':=by
 unfold Ad
 haveI:LenIs (BK i t).l 16:=⟨GP i t⟩
 go_enter Tryz.func76,Tryz.ntmps76;repeat' (first|(apply gK ();go_step)|(apply kc ();refine sc (GB _ hst i hi) ?_;clear hst;rintro v w ⟨S1,hS1,h1,h11,hst⟩)|(apply sZ ();clear hst;intro bk w hst)|fail)
 repeat' (first|(apply kc ();refine sc (GB _ hst t ht) ?_;clear hst;rintro v w ⟨S2,hS2,h2,h21,hst⟩)|fail)
 refine DT hst (.cons (h1.mono hS2) (.cons h2 .nil)) Aa Aa rfl rfl (by omega) ?_;clear hst;intro S3 u w hS3 hu hu1 hst;(try refine nY ?_);repeat' (first|(with_reducible refine kS ?_;refine FX hst rfl BoxIn.h Aa Ab Aa H6 ?_;clear hst;intro w hst<;>(try refine nY ?_)<;>(try replace hst:=nH hst))|(apply gK ();go_step)|(apply kc ();refine sc (EG _ hst (((hG.mono hS1).mono hS2).mono hS3) 10 (by omega) _ _ hu (Nat.le_trans (R4 (C8 i) (C8 t)) (by omega))) ?_;clear hst;rintro v w ⟨rfl,hst⟩)|fail)
 apply eR ()
theorem ZJ {S M} (w:World) (hst:St S M w) (hG:Bo S) (i t:Int) (hi:Au i) (ht:Au t) :
  Ad Tryz.prog 77 [.int .i64 i,.int .i64 t] w fun v w'=>v=Cu (Mp i t)∧St S M w':=by
 unfold Ad
 haveI:LenIs (Mp i t).l 16:=⟨N2 i t⟩
 go_enter Tryz.func77,Tryz.ntmps77;repeat' (first|(apply gK ();go_step)|(apply kc ();refine sc (GB _ hst i hi) ?_;clear hst;rintro v w ⟨S1,hS1,h1,h11,hst⟩)|(apply sZ ();clear hst;intro bk w hst)|fail)
 repeat' (first|(apply kc ();refine sc (GB _ hst t ht) ?_;clear hst;rintro v w ⟨S2,hS2,h2,h21,hst⟩)|fail)
 refine DT hst (.cons (h1.mono hS2) (.cons h2 .nil)) Aa Aa rfl rfl (by omega) ?_;clear hst;intro S3 u w hS3 hu hu1 hst;(try refine nY ?_);repeat' (first|(with_reducible refine kS ?_;refine FX hst rfl BoxIn.h Aa Ab Aa H6 ?_;clear hst;intro w hst<;>(try refine nY ?_)<;>(try replace hst:=nH hst))|(apply gK ();go_step)|(apply kc ();refine sc (EG _ hst (((hG.mono hS1).mono hS2).mono hS3) 8 (by omega) _ _ hu (Nat.le_trans (R4 (C8 i) (C8 t)) (by omega))) ?_;clear hst;rintro v w ⟨rfl,hst⟩)|fail)
 apply eR ()
def Dj (lf:Int→Int→Dg) (xs:List Int):List Dg:=(List.range xs.length).map fun (j:Nat)=>lf (j:Int) (xs.getD j 0)
theorem IQ (lf:Int→Int→Dg) (xs:List Int):(Dj lf xs).length=xs.length:=by simp [Dj]
def DB (lf:Int→Int→Dg) (xs:List Int) (n:Nat):List Dg:=((List.range n).map fun (j:Nat)=>lf (j:Int) (xs.getD j 0))++List.replicate (xs.length - n) ⟨List.replicate 16 0⟩
theorem Qn (lf:Int→Int→Dg) (xs:List Int) {n:Nat} (h:n≤xs.length):(DB lf xs n).length=xs.length:=by simp [DB];omega
theorem Pi (lf:Int→Int→Dg) (xs:List Int) {i:Nat} (h:i < xs.length):(DB lf xs i).set i (lf (i:Int) (xs.getD i 0))=DB lf xs (i+1):=by
 have e:xs.length - i=(xs.length - (i+1))+1:=by omega
 rw [DB,DB,List.range_succ,List.map_append,List.set_append,if_neg (by simp),e,List.replicate_succ];simp
theorem Lj (lf:Int→Int→Dg) (xs:List Int):DB lf xs xs.length=Dj lf xs:=by simp [DB,Dj]
theorem Mv {lf:Int→Int→Dg} (hl:∀ i t,(lf i t).l.length=16) (xs:List Int) (n:Nat):∀ d∈DB lf xs n,d.l.length=16:=by
 intro d hd;rcases List.mem_append.1 hd with h|h
 ·obtain ⟨j,_,rfl⟩:=List.mem_map.1 h;exact hl _ _
 ·obtain ⟨_,rfl⟩:=List.mem_replicate.1 h;rfl
theorem SE {lf:Int→Int→Dg} (hl:∀ i t,(lf i t).l.length=16) (xs:List Int):∀ d∈Dj lf xs,d.l.length=16:=by
 rw [← Lj];exact Mv hl xs _
theorem Yh (ds:List Dg) (h:∀ d∈ds,d.l.length=16):(cF Eo ds).length=ds.length * 16:=by
 induction ds with
 | nil=>rfl
 | cons d r ih =>
  have h1:=h d (.head _);have h2:=ih fun x hx=>h x (.tail _ hx)
  have e:cF Eo (d::r)=u8s d.l++cF Eo r:=rfl;rw [e,List.length_append,h2,A8,h1,List.length_cons];omega
theorem Ry:∀ (ds:List Dg) (h:∀ d∈ds,d.l.length=16) (j:Nat) (hj:j < ds.length) (d:Dg),(cF Eo ds).take (j * 16)++u8s d.l++(cF Eo ds).drop (j * 16+16)=cF Eo (ds.set j d)
 | [],_,_,hj,_=>by simp at hj
 | e::r,h,j,hj,d=>by
  have h1:=h e (.head _);have e1:cF Eo (e::r)=u8s e.l++cF Eo r:=rfl;have hl:(u8s e.l).length=16:=by rw [A8,h1]
  cases j with
  | zero =>
   have e2:cF Eo ((e::r).set 0 d)=u8s d.l++cF Eo r:=rfl;have h3:=List.drop_left (l₁:=u8s e.l) (l₂:=cF Eo r);rw [hl] at h3;rw [e2,e1,Nat.zero_mul,List.take_zero,List.nil_append,Nat.zero_add,h3]
  | succ j =>
   have e2:cF Eo ((e::r).set (j+1) d)=u8s e.l++cF Eo (r.set j d):=rfl;have ih:=Ry r (fun x hx=>h x (.tail _ hx)) j (by simpa using hj) d;rw [e2,e1,← ih,List.take_append,List.take_of_length_le (by omega),List.drop_append,List.drop_of_length_le (by omega),hl,List.nil_append,show (j+1) * 16 - 16=j * 16 by omega,show (j+1) * 16+16 - 16=j * 16+16 by omega];simp only [List.append_assoc]
theorem Wf (n:Nat):(List.replicate n (u8s (List.replicate 16 0))).flatten=cF Eo (List.replicate n ⟨List.replicate 16 0⟩):=by
 simp [cF,Eo]
theorem QU {S M} (w:World) (hst:St S M w) (hG:Bo S) (vl:Value) (xs:List Int) (hl:RSl S vl xs) (hm:xs.length≤1000) (f:FuncId) (lf:Int→Int→Dg) (hlf:∀ i t,(lf i t).l.length=16)
  (hb:Body Tryz.prog f) (cl:∀ {S M} (w:World),St S M w→Bo S→∀ i t:Int,Au i→Au t→Ad Tryz.prog f [.int .i64 i,.int .i64 t] w fun v w'=>v=Cu (lf i t)∧St S M w') :
  Ad Tryz.prog 75 [vl,.func (.func f) #[] #[]] w fun v w'=>v=Cu (B0 (Dj lf xs))∧St S M w':=by
 unfold Ad;have hl1:=hl.oneCell
 haveI:=hb
 haveI:LenIs (B0 (Dj lf xs)).l 16:=⟨Cm _⟩
 have hi64:=QT hl;go_enter Tryz.func75,Tryz.ntmps75;repeat' (first|(apply gK ();go_step)|apply sY ()|(apply sZ ();clear hst;intro bk w hst)|fail)
 refine IW (n:=xs.length) hst (by infer_instance) (by infer_instance) Ab Ab (by omega) (by omega) ?_;clear hst;intro vw w hst;rename Nat=>b4
 have hst:St S (.sl vw 23 16 xs.length (cF Eo (DB lf xs 0))::.box b4 (u8s (List.replicate 16 0)) 23::M) w:=by
  have e:DB lf xs 0=List.replicate xs.length ⟨List.replicate 16 0⟩:=by simp [DB]
  rw [e,← Wf];exact hst
 have hvw:=AW hst;(try refine nY ?_);repeat' (first|(apply gK ();go_step)|apply sY ()|fail)
 go_loopw [13] (fun v wr=>∃ (i:Nat) (ds:List Dg),i≤xs.length∧v=.int .i64 i∧Hid (ds=DB lf xs i)∧(xs.length≤ds.length∧ds.length≤xs.length)∧St S (.sl vw 23 16 xs.length (cF Eo ds)::.box b4 (u8s (List.replicate 16 0)) 23::M) wr) (fun v _=>xs.length - (intOf v).toNat)
 case atStart=>exact ⟨0,_,Nat.zero_le _,rfl,Lib.hid rfl,by rw [Qn _ _ (Nat.zero_le _)];omega,hst⟩
 case round =>
  clear hst;obtain ⟨i,ds,hi,rfl,hds,hdl,hst⟩:=hrel;have hd16:∀ d∈ds,d.l.length=16:=by rw [hds.out];exact Mv hlf xs i
  by_cases hlt:i < xs.length
  ·have hx:=hi64 xs[i] (List.getElem_mem hlt);have hi2:Au (i:Int):=by unfold Au;omega
   have hsucc:=Lib.hid (Pi lf xs hlt);have hgd:=Lib.hid (show xs.getD i 0=xs[i] by rw [List.getD_eq_getElem?_getD,List.getElem?_eq_getElem hlt];rfl);have hcl:=Yh ds hd16;have hset:=Lib.hid (Ry ds hd16 i (by omega) (lf (i:Int) xs[i]));have hl16:=hlf (i:Int) xs[i];repeat' (first|(with_reducible refine kI ?_;(first|refine An hst (Ao Ab Ak rfl Aa Aa Af Af) ?_|refine An hst (Aq hst Ab SlIn.h rfl Aa Aa Af Af) ?_);rintro v hp;(try simp only [Int.toNat_natCast,Int.toNat_natCast_add_one,Int.reduceToNat] at hp)<;>(try refine nY ?_))|(apply gK ();go_step)|(with_reducible refine kC ?_;refine DU (cl _ hst hG (i:Int) xs[i] hi2 hx) rfl Aa rfl rfl ?_;clear hst;rintro v w ⟨rfl,hst⟩<;>(try refine nY ?_)<;>(try replace hst:=nH hst))|(with_reducible refine kL ?_;refine An hst (Am Ab Ak Aa) ?_;rintro v ⟨rfl,hI⟩<;>(try refine nY ?_))|fail)
   refine BJ hst Ab Ak SlIn.h Aa Ab (cs:=u8s (lf (i:Int) xs[i]).l) rfl (by rw [A8];exact hl16) (List.all_eq_true.2 (EO _)) (by omega) ?_;clear hst;intro w hst;have hst:St S (.sl vw 23 16 xs.length (cF Eo (ds.set i (lf (i:Int) xs[i])))::.box b4 (u8s (List.replicate 16 0)) 23::M) w:=by rw [← hset.out];exact hst
   (try refine nY ?_);repeat' (first|(apply gK ();go_step)|fail)
   go_roundw
   case rel=>exact ⟨i+1,_,by omega,by go_num,Lib.hid (by rw [hds.out,← hgd.out,hsucc.out]),by rw [List.length_set];omega,hst⟩
   case measure=>simp [intOf];omega
  ·obtain rfl:i=xs.length:=by omega
   obtain ⟨S1,hS1,hst,hv⟩:=St.freeze (α:=Dg) hst (KM hd16) (by omega);have hv1:=hv.oneCell;have hE:Hid (ds=Dj lf xs):=Lib.hid (by rw [hds.out,Lj])
   haveI:LenIs (B0 ds).l 16:=⟨Cm _⟩
   repeat' (first|(with_reducible refine kS ?_;refine FX hst rfl BoxIn.h Aa Ab Aa H6 ?_;clear hst;intro w hst<;>(try refine nY ?_)<;>(try replace hst:=nH hst))|(apply gK ();go_step)|(apply kc ();refine sc (OS ds.length _ hst (hG.mono hS1) _ ds hv (Nat.le_refl _) (by omega)) ?_;clear hst;rintro v w ⟨rfl,hst⟩)|fail)
   exact Jr rfl hst rfl BoxIn.h Aa Aa ⟨_,rfl,by rw [hE.out],St.weaken hS1 hst.drop⟩
abbrev Ev:=Dg×List Int×List Int×List Int×Int×Unit
abbrev Hd:=Dg×Dg×Int×Dg×Dg×Int×Unit
abbrev Rg:=Dg×Dg×Unit
def F6 (h:Hd):List Value:=u8s h.1.l++(u8s h.2.1.l++([.int .i64 h.2.2.1]++(u8s h.2.2.2.1.l++(u8s h.2.2.2.2.1.l++([.int .i64 h.2.2.2.2.2.1]++[])))))
def Fk (r:Rg):List Value:=u8s r.1.l++(u8s r.2.1.l++[])
instance eB:FlatC Hd F6:=⟨fun {S cs x} h=>(LK (α:=Dg) (β:=Dg×Int×Dg×Dg×Int×Unit)).flat h⟩
instance Ks:FlatC Rg Fk:=⟨fun {S cs x} h=>(LK (α:=Dg) (β:=Dg×Unit)).flat h⟩
abbrev Vj (h:Hd):Value:=.agg (F6 h).toArray
abbrev K9 (r:Rg):Value:=.agg (Fk r).toArray
theorem Bi {S:Ac} {d:Dg} (h:d.l.length=16):Rep.R S (u8s d.l) d:=by exact ⟨h,KL d.l⟩
structure Fo (h:Hd):Prop where
 a:h.1.l.length=16
 b:h.2.1.l.length=16
 c:Au h.2.2.1
 d:h.2.2.2.1.l.length=16
 e:h.2.2.2.2.1.l.length=16
 f:Au h.2.2.2.2.2.1
structure Er (r:Rg):Prop where
 a:r.1.l.length=16
 b:r.2.1.l.length=16
theorem CS {S:Ac} {h:Hd} (k:Fo h):Rep.R S (F6 h) h :=
 Ay (Bi k.a) (Ay (Bi k.b) (Ay (cs:=[_]) ⟨rfl,k.c⟩ (Ay (Bi k.d) (Ay (Bi k.e) (Ay (cs:=[_]) ⟨rfl,k.f⟩ Cf)))))
theorem C1 {S:Ac} {r:Rg} (k:Er r):Rep.R S (Fk r) r:=Ay (Bi k.a) (Ay (Bi k.b) Cf)
def Rz:Dg:=⟨List.replicate 16 0⟩
def lr:Hd:=(Rz,Rz,0,Rz,Rz,0,())
def f8:Rg:=(Rz,Rz,())
theorem ef:Fo lr:=⟨rfl,rfl,by unfold Au;exact ⟨by decide,by decide⟩,rfl,rfl,by unfold Au;exact ⟨by decide,by decide⟩⟩
theorem J7:Er f8:=⟨rfl,rfl⟩
theorem PG {S:Ac} {cs:List Value} {e:Ev} (h:Rep.R S cs e):e.1.l.length=16∧Au e.2.2.2.2.1:=⟨h.2.1.1,h.2.2.2.2.2.2.2.2.2.1.2⟩
def FU (m:Dg):Rg:=(⟨Dq 7 [Bm 0,m.l]⟩,⟨Dq 7 [Bm 1,m.l]⟩,())
theorem Ij (m:Dg):Er (FU m):=⟨Ch _ _,Ch _ _⟩
def AE (e:Ev):Hd:=(e.1,⟨Dq 11 [Ku e.2.1]⟩,(e.2.2.1.length:Int),B0 (Dj BK e.2.2.1),B0 (Dj Mp e.2.2.2.1),e.2.2.2.2.1,())
def Gm (r:Rg) (h:Hd):Rg:=(⟨Dq 9 [r.1.l,h.1.l,Bm h.2.2.1,h.2.2.2.1.l,h.2.2.2.2.1.l,Bm h.2.2.2.2.2.1]⟩,⟨Dq 9 [r.2.1.l,h.2.1.l]⟩,())
theorem Rs (r:Rg) (h:Hd):Er (Gm r h):=⟨Ch _ _,Ch _ _⟩
theorem Gk {S:Ac} {M:List Chunk} {l:List Value} {x:Operand} {p:Value} {d:Dg} (hx:Ai l x=p) (hp:Pt S p d):∃ v,RSl S v d.l∧Qt Tryz.prog l (.slice 23 x none none none) S M v:=by
 have h16:d.l.length=16:=by obtain ⟨b,o,c,T,fz,_,_,h⟩:=hp;exact h.1
 obtain ⟨v,hv,hq⟩:=Fb (P:=Tryz.prog) (M:=M) (l:=l) (T:=23) (E:=5) (lo:=none) (hi:=none) (a:=0) (b:=16) hx hp Aa Aa (.inl ⟨rfl,rfl⟩) (.inl ⟨rfl,rfl⟩) (by omega) (by omega) (by unfold maxLen;omega);rw [List.drop_zero,List.take_of_length_le (by omega)] at hv;exact ⟨v,hv,hq⟩
theorem Vh {S M} (w:World) (hst:St S M w) (hG:Bo S) (cs:List Value) (ev:Ev) (hR:Rep.R S cs ev) (h1:ev.2.1.length≤1000) (h2:ev.2.2.1.length≤1000) (h3:ev.2.2.2.1.length≤1000) :
  Ad Tryz.prog 39 [.agg cs.toArray] w fun v w'=>v=Vj (AE ev)∧St S M w':=by
 unfold Ad;obtain ⟨hs16,hf64⟩:=PG hR;have hok:Fo (AE ev):=⟨hs16,Ch _ _,by unfold Au;show (-9223372036854775808:Int)≤(ev.2.2.1.length:Int)∧(ev.2.2.1.length:Int)≤9223372036854775807;omega,Cm _,Cm _,hf64⟩
 have hzl:(Ku ev.2.1).length≤10+10 * ev.2.1.length:=Yd _;go_enter Tryz.func39,Tryz.ntmps39;repeat' ((apply Z1 ());first|(apply gK ();go_step)|(apply sC ();clear hst;intro bx w hst)|(apply sZ ();clear hst;intro bk w hst)|fail)
 obtain ⟨S1,hS1,hst,hpe⟩:=AC (α:=Ev) hst.swap hR (Rep.len hR);replace hG:=hG.mono hS1;refine AF hst kr ?_;clear hst;intro ops;(try refine nY ?_);refine tx 0 rfl (Ah Ab hpe Aa Aa rfl) ?_;rintro vf hpf;refine tq 1 rfl (by exact Bp Ab Ak Aa Aa rfl) ?_;refine tx 2 rfl (Ah Ab hpe Aa Aa rfl) ?_;rintro vf hpf;refine tx 3 rfl (Ae Ab Ak Aa) ?_;rintro v3 ⟨hv3,hv31⟩;refine tx 7 rfl (Ah Ab hpe Aa Aa rfl) ?_;rintro vf hpf;refine tx 8 rfl (Ae Ab Ak Aa) ?_;rintro v8 ⟨hv8,hv81⟩;refine td 9 rfl ?_;refine tx 10 rfl (Ah Ab hpe Aa Aa rfl) ?_;rintro vf hpf;refine tx 11 rfl (Ae Ab Ak Aa) ?_;rintro v11 ⟨hv11,hv111⟩;refine tx 13 rfl (Ah Ab hpe Aa Aa rfl) ?_;rintro vf hpf;refine tx 14 rfl (Ae Ab Ak Aa) ?_;rintro v14 ⟨hv14,hv141⟩;refine tx 16 rfl (Ah Ab hpe Aa Aa rfl) ?_;rintro vf hpf;refine tx 17 rfl (Am Ab Ak Aa) ?_;rintro v ⟨rfl,hI⟩;refine AR 4 rfl kr ?_;intro w hst K hK;refine B9 (Vv w hst _ ev.2.1 hv3 (by omega)) Aa rfl ?_;clear hst;rintro v4 w ⟨S4,hS4,hv4,hv41,hst⟩;(try refine nY ?_);(try replace hst:=nH hst);refine Bn hK hst hS4 (Suf.refl _) ?_;clear hst hK K;(try clear w);(try refine nY ?_);refine AR 5 rfl kr ?_;intro w hst K hK;refine DT hst (.cons hv4 .nil) Aa Aa rfl rfl (by omega) ?_;clear hst;intro S5 u5 w hS5 hu5 hu51 hst;(try refine nY ?_);(try replace hst:=nH hst);refine Bn hK hst hS5 (Suf.refl _) ?_;clear hst hK K;(try clear w);(try refine nY ?_)
 (refine Ba 6 rfl kr rfl (fun S' M' w hS hM hst=>EG w hst (((hG.mono hS4).mono hS5).mono hS) 11 (by omega) _ _ (hu5.mono hS) (Nat.le_trans (fw hzl) (by omega))) Aa rfl ?_)<;>(try refine nY ?_)
 (refine Ba 12 rfl kr rfl (fun S' M' w hS hM hst=>QU w hst (((hG.mono hS4).mono hS5).mono hS) _ ev.2.2.1 (((hv11.mono hS4).mono hS5).mono hS) (by omega) _ BK GP inferInstance (fun w hst hG i t hi ht=>Na w hst hG i t hi ht)) Aa rfl ?_)<;>(try refine nY ?_)
 (refine Ba 15 rfl kr rfl (fun S' M' w hS hM hst=>QU w hst (((hG.mono hS4).mono hS5).mono hS) _ ev.2.2.2.1 (((hv14.mono hS4).mono hS5).mono hS) (by omega) _ Mp N2 inferInstance (fun w hst hG i t hi ht=>ZJ w hst hG i t hi ht)) Aa rfl ?_)<;>(try refine nY ?_)
 refine tq 18 rfl (FK eB Aa Aa (CS ef) (.cons (k:=0) (v:=Cu (AE ev).1) (y:=(AE ev).1) (Bi hok.a) rfl (.cons (k:=1) (v:=Cu (AE ev).2.1) (y:=(AE ev).2.1) (Bi hok.b) rfl (.cons (k:=2) (v:=.int .i64 (AE ev).2.2.1) (y:=(AE ev).2.2.1) ⟨rfl,hok.c⟩ rfl (.cons (k:=3) (v:=Cu (AE ev).2.2.2.1) (y:=(AE ev).2.2.2.1) (Bi hok.d) rfl (.cons (k:=4) (v:=Cu (AE ev).2.2.2.2.1) (y:=(AE ev).2.2.2.2.1) (Bi hok.e) rfl (.cons (k:=5) (v:=.int .i64 (AE ev).2.2.2.2.2.1) (y:=(AE ev).2.2.2.2.2.1) ⟨rfl,hok.f⟩ rfl .nil))))))) ?_;refine AR 19 rfl kr ?_;intro w hst K hK;refine CN hst rfl BoxIn.h Aa (x0:=AE ev) (cs:=F6 (AE ev)) Ab (CS hok) rfl ?_;clear hst;intro w hst;(try refine nY ?_);(try replace hst:=nH hst);refine Bb hK hst ?_;clear hst hK K;(try clear w);(try refine nY ?_);refine AK kr ?_;clear ops;intro w hst;repeat' (first|(apply gK ();go_step)|fail)
 exact Oq rfl hst rfl BoxIn.h Aa (CS hok) ⟨_,rfl,rfl,St.weaken ((hS1.trans hS4).trans hS5) hst.drop⟩
end Go.Proofs.YtmmbidoldegemaaGreatDoor
