/- Part 29 of a proof; no conditions. -/
import Derived.Test.YtmmbidoldegemaaGreatDoorZ27
set_option linter.all false
set_option maxRecDepth 8000
set_option maxHeartbeats 8000000
namespace Go.Proofs.YtmmbidoldegemaaGreatDoor
open Go.RowKit Go.Sl Go.Srt Go.Proofs.Tryz
theorem Ol {S M w sv Nqq c xs} {P:List TP→Prop} (hR:RL S c xs) (hP:P xs) (V:St S (.sl sv 63 4 Nqq c::M) w):∃ zs c2,RL S c2 zs∧P zs∧St S (.sl sv 63 4 Nqq c2::M) w:=⟨xs,c,hR,hP,V⟩
theorem U7:∀ (Lqq:Nat) {S M} (w:World) (sv:Value) (Nqq:Nat) (xs:List TP) (_hN:xs.length=Nqq) (c:List Value) (_hst:St S (.sl sv 63 4 Nqq c::M) w) (_hR:RL S c xs) (a m b:Nat) (_ham:a < m) (_hmb:m < b) (_hb:b≤Nqq) (_hx:Nqq≤1000000) (_hL:b - a≤Lqq) (_hs1:Bn Cb AI xs a m) (_hs2:Bn Cb AI xs m b) (_hS0:Hid (DH kP AI xs)),
  Ac prog 94 [sv,.int .i64 a,.int .i64 m,.int .i64 b,ME] w fun _ w'=>∃ c' ys,RL S c' ys∧CD AI a b xs ys∧Bn Cb AI ys a b∧St S (.sl sv 63 4 Nqq c'::M) w':=by
 intro Lqq
 induction Lqq with
 | zero=>intro S M w sv Nqq xs hN c V hR a m b ham hmb hb hx hL;omega
 | succ Lqq ih =>
  intro S M w sv Nqq xs hN c V hR a m b ham hmb hb hx hL hs1 hs2 hS0;unfold Ac;have hone:=Go.Sl.AY V;have HN:=Lib.hid hN;clear hN;by_cases h1:m=a+1
  ·skip
   have g1:((m:Int) - (a:Int) == 1)=true:=beq_iff_eq.2 (by omega);have H1:=Lib.hid h1;have hm1:m≤a+1∧a+1≤m:=by omega
   clear h1 hs1;go_enter func94,ntmps94;repeat' (first|apply sK ()|(apply O ();go_step)|fail)
   clear g1
   go_loopw [10,11,12] (fun v10 v11 _ wr=>∃ (i j:Nat),(m≤i∧i≤j∧j≤b)∧v10=.int .i64 i∧v11=.int .i64 j∧Hid ((∀ t,m≤t→t < i→Cb (xs.getD t AI) (xs.getD a AI) < 0)∧∀ t,j≤t→t < b→¬ Cb (xs.getD t AI) (xs.getD a AI) < 0)∧St S (.sl sv 63 4 Nqq c::M) wr) (fun v v2 _ _=>(intOf v2).toNat - (intOf v).toNat)
   case atStart=>exact ⟨m,b,by omega,rfl,rfl,Lib.hid ⟨fun t h1 h2=>by omega,fun t h1 h2=>by omega⟩,V⟩
   case round =>
    clear V;obtain ⟨i,j,hij,rfl,rfl,hse,V⟩:=hrel;by_cases hlt:i < j
    ·obtain ⟨h,eh,hh⟩:∃ h:Nat,((i:Int)+(j:Int)) / 2=(h:Int)∧i≤h∧h < j:=⟨(i+j) / 2,by omega,by omega,by omega⟩
     have hA0:h < xs.length:=by rw [HN.out];omega
     have hB0:a < xs.length:=by rw [HN.out];omega
     have gA:=getD_some (d:=AI) hA0;have gB:=getD_some (d:=AI) hB0;have cC:=fun {S':Ad} {M:List J} (w:World) (hS:S.Le S') (V:St S' M w) (c1 c2:List Value) (h1:Z.R S c1 (xs.getD h AI)) (h2:Z.R S c2 (xs.getD a AI))=>Nj w V c1 _ (Z.mono hS h1) c2 _ (Z.mono hS h2)
     obtain ⟨y,gy⟩:∃ y,decide (Cb (xs.getD h AI) (xs.getD a AI) < 0)=y:=⟨_,rfl⟩
     have gk:=(hS0.out.lt (show a < h by omega) hA0).trans gy
     cases y with
     | true =>
      have hnx:=Lib.hid (show ∀ t,m≤t→t < h+1→Cb (xs.getD t AI) (xs.getD a AI) < 0 from fun t k1 k2=>le_lt DR (hs2.le' DR k1 (show t≤h by omega) (by omega)) (of_decide_eq_true gy));repeat' ((apply ZZ 5);first|(apply O ();go_step)|fail)
      refine AD V kr ?_;clear V;intro ops;apply nW ();refine td 0 rfl ?_;refine td 1 rfl ?_;refine td 2 rfl ?_
      ((refine BN 3 rfl kr rfl rfl (fun w V=>Ao V X SlIn.h rfl Y Y Af Af ) ?_;rintro  v3 hp3;simp only [Int.toNat_natCast] at hp3))<;>apply nW ()
      refine tx 4 rfl (BZ (j:=h) X hp3 SlIn.h hR Y gA) ?_;rintro v4 ⟨c4,rfl,hc4⟩;refine td 5 rfl ?_;refine td 6 rfl ?_
      ((refine BN 7 rfl kr rfl rfl (fun w V=>Ao V X SlIn.h rfl Y Y Af Af ) ?_;rintro  v7 hp7;simp only [Int.toNat_natCast] at hp7))<;>apply nW ()
      refine tx 8 rfl (BZ (j:=a) X hp7 SlIn.h hR Y gB) ?_;rintro v8 ⟨c8,rfl,hc8⟩;(refine Ge 9 rfl kr rfl (fun S' M' w hS hM V=>cC w hS V c4 c8 hc4 hc8) rfl Y rfl rfl ?_)<;>apply nW ()
      refine tq 10 rfl (D6 rfl rfl gk) ?_;apply jO ()
     | false =>
      have hnx:=Lib.hid (show ∀ t,h≤t→t < b→¬ Cb (xs.getD t AI) (xs.getD a AI) < 0 from fun t k1 k2=>DR.tr (of_decide_eq_false gy) (hs2.le' DR (by omega) k1 k2));repeat' ((apply ZZ 5);first|(apply O ();go_step)|fail)
      refine AD V kr ?_;clear V;intro ops;apply nW ();refine td 0 rfl ?_;refine td 1 rfl ?_;refine td 2 rfl ?_
      ((refine BN 3 rfl kr rfl rfl (fun w V=>Ao V X SlIn.h rfl Y Y Af Af ) ?_;rintro  v3 hp3;simp only [Int.toNat_natCast] at hp3))<;>apply nW ()
      refine tx 4 rfl (BZ (j:=h) X hp3 SlIn.h hR Y gA) ?_;rintro v4 ⟨c4,rfl,hc4⟩;refine td 5 rfl ?_;refine td 6 rfl ?_
      ((refine BN 7 rfl kr rfl rfl (fun w V=>Ao V X SlIn.h rfl Y Y Af Af ) ?_;rintro  v7 hp7;simp only [Int.toNat_natCast] at hp7))<;>apply nW ()
      refine tx 8 rfl (BZ (j:=a) X hp7 SlIn.h hR Y gB) ?_;rintro v8 ⟨c8,rfl,hc8⟩;(refine Ge 9 rfl kr rfl (fun S' M' w hS hM V=>cC w hS V c4 c8 hc4 hc8) rfl Y rfl rfl ?_)<;>apply nW ()
      refine tq 10 rfl (D6 rfl rfl gk) ?_;apply jN ()
    ·obtain rfl:i=j:=by omega
     have h0:=Lib.hid (show GK AI xs xs a (a+1) (a+1) from Mq xs (.inr rfl) (by omega) (Nat.le_refl _));repeat' (first|(apply O ();go_step)|fail)
     go_loopw [13] (fun v13 wr=>∃ (k:Nat) (c':List Value) (ys:List TP),(a≤k∧k+1≤i)∧v13=.int .i64 k∧RL S c' ys∧Hid (GK AI xs ys a (a+1) (k+1))∧St S (.sl sv 63 4 Nqq c'::M) wr) (fun v _=>i - (intOf v).toNat)
     case atStart=>exact ⟨a,c,xs,by omega,rfl,hR,h0,V⟩
     case round =>
      clear V hR h0;obtain ⟨k,c',ys,hk,rfl,hR,hro,V⟩:=hrel;have hyl:ys.length=Nqq:=hro.out.1.length_eq.trans HN.out;by_cases hki:k+1 < i
      ·have hjA:k < ys.length:=by omega
       have hjB:k+1 < ys.length:=by omega
       have gA:=getD_some (d:=AI) hjA;have gB:=getD_some (d:=AI) hjB;have hyl:=Lib.hid hyl;have hnx:=Lib.hid (VE hro.out hk.1 (show k+1 < xs.length by rw [HN.out];omega));repeat' ((apply ZZ 11);first|(apply O ();go_step)|fail)
       refine AD V kr ?_;clear V;intro ops;apply nW ();refine td 0 rfl ?_;refine td 1 rfl ?_;(refine ED 2 rfl kr rfl rfl (fun _ _=>by exact Dn X) ?_)<;>apply nW ()
       (refine ED 3 rfl kr rfl rfl (fun _ _=>by exact Dn X) ?_)<;>apply nW ()
       (refine ED 4 rfl kr rfl rfl (fun _ _=>by exact DC rfl rfl Af) ?_)<;>apply nW ()
       refine td 5 rfl ?_;refine td 6 rfl ?_;refine tq 7 rfl (by exact DC rfl rfl Af) ?_
       ((refine BN 8 rfl kr rfl rfl (fun w V=>Ao V X SlIn.h rfl Y Y Af Af ) ?_;rintro  v8 hq8;simp only [Int.toNat_natCast_add_one] at hq8))<;>apply nW ()
       refine tx 9 rfl (BZ (j:=k+1) X hq8 SlIn.h hR Y gB) ?_;rintro v9 ⟨cb,rfl,hcb⟩;refine td 10 rfl ?_;refine td 11 rfl ?_
       ((refine BN 12 rfl kr rfl rfl (fun w V=>Ao V X SlIn.h rfl Y Y Af Af ) ?_;rintro  v12 hq12;simp only [Int.toNat_natCast] at hq12))<;>apply nW ()
       refine tx 13 rfl (BZ (j:=k) X hq12 SlIn.h hR Y gA) ?_;rintro v13 ⟨ca,rfl,hca⟩
       ((refine BN 14 rfl kr rfl rfl (fun w V=>Ao V X SlIn.h rfl Y Y Af Af ) ?_;rintro  v14 hq14;simp only [Int.toNat_natCast] at hq14))<;>apply nW ()
       refine AP 15 rfl kr ?_;intro w V K G;refine BV (u:=.agg cb.toArray) (cs:=cb) V X hq14 SlIn.h Y X rfl (Z.len hcb) (List.all_eq_true.2 (Z.one hcb)) (RL.at_len hR hjA) ?_;clear V;intro w V;apply nW ();(try replace V:=nH V);refine Bb G V ?_;clear V G K;(try clear w);apply nW ()
       ((refine BN 16 rfl kr rfl rfl (fun w V=>Ao V X SlIn.h rfl Y Y Af Af ) ?_;rintro  v16 hq16;simp only [Int.toNat_natCast_add_one] at hq16))<;>apply nW ()
       refine AP 17 rfl kr ?_;intro w V K G;refine BV (u:=.agg ca.toArray) (cs:=ca) V X hq16 SlIn.h Y X rfl (Z.len hca) (List.all_eq_true.2 (Z.one hca)) (RL.at_len (RL.set hR hcb hjA) (by simpa using hjB)) ?_;clear V;intro w V;apply nW ();(try replace V:=nH V);refine Bb G V ?_;clear V G K;(try clear w);apply nW ();refine AJ kr ?_;clear ops;intro w V;have hq:=RL.set (RL.set hR hcb hjA) hca (show k+1 < (ys.set k (ys.getD (k+1) AI)).length by simpa using hjB);repeat' (first|(apply O ();go_step)|fail)
       go_roundw
       case rel=>exact ⟨k+1,_,_,by omega,by go_num,hq,hnx,V⟩
       case measure=>simp [intOf];omega
      ·have e:k+1=i:=by omega
       have hE:=Lib.hid (show CD AI a b xs ys∧Bn Cb AI ys a b by
        rw [e] at hro;rw [H1.out] at hs2 hse;exact ⟨(Lz hro.out (by omega) (by omega)).wide (Nat.le_refl _) (by omega),YV DR hs2 hro.out (by omega) (by omega) hse.out.1 hse.out.2⟩)
       apply jE ()
  ·by_cases h2:b=m+1
   ·skip
    have g0:((m:Int) - (a:Int) == 1)=false:=beq_eq_false_iff_ne.2 (by omega);have g1:((b:Int) - (m:Int) == 1)=true:=beq_iff_eq.2 (by omega);have H1:=Lib.hid h2;have hm1:b≤m+1∧m+1≤b:=by omega
    clear h2 hs2;go_enter func94,ntmps94;repeat' (first|apply sK ()|(apply O ();go_step)|fail)
    clear g0 g1
    go_loopw [14,15,16] (fun v10 v11 _ wr=>∃ (i j:Nat),(a≤i∧i≤j∧j≤m)∧v10=.int .i64 i∧v11=.int .i64 j∧Hid ((∀ t,a≤t→t < i→¬ Cb (xs.getD m AI) (xs.getD t AI) < 0)∧∀ t,j≤t→t < m→Cb (xs.getD m AI) (xs.getD t AI) < 0)∧St S (.sl sv 63 4 Nqq c::M) wr) (fun v v2 _ _=>(intOf v2).toNat - (intOf v).toNat)
    case atStart=>exact ⟨a,m,by omega,rfl,rfl,Lib.hid ⟨fun t h1 h2=>by omega,fun t h1 h2=>by omega⟩,V⟩
    case round =>
     clear V;obtain ⟨i,j,hij,rfl,rfl,hse,V⟩:=hrel;by_cases hlt:i < j
     ·obtain ⟨h,eh,hh⟩:∃ h:Nat,((i:Int)+(j:Int)) / 2=(h:Int)∧i≤h∧h < j:=⟨(i+j) / 2,by omega,by omega,by omega⟩
      have hA0:m < xs.length:=by rw [HN.out];omega
      have hB0:h < xs.length:=by rw [HN.out];omega
      have gA:=getD_some (d:=AI) hA0;have gB:=getD_some (d:=AI) hB0;have cC:=fun {S':Ad} {M:List J} (w:World) (hS:S.Le S') (V:St S' M w) (c1 c2:List Value) (h1:Z.R S c1 (xs.getD m AI)) (h2:Z.R S c2 (xs.getD h AI))=>Nj w V c1 _ (Z.mono hS h1) c2 _ (Z.mono hS h2)
      obtain ⟨y,gy⟩:∃ y,decide (Cb (xs.getD m AI) (xs.getD h AI) < 0)=y:=⟨_,rfl⟩
      have gk:=(hS0.out.lt (show h < m by omega) hA0).trans gy
      cases y with
      | true =>
       have hnx:=Lib.hid (show ∀ t,h≤t→t < m→Cb (xs.getD m AI) (xs.getD t AI) < 0 from fun t k1 k2=>Srt.lt_le DR (of_decide_eq_true gy) (hs1.le' DR (by omega) k1 k2));repeat' ((apply ZZ 17);first|(apply O ();go_step)|fail)
       refine AD V kr ?_;clear V;intro ops;apply nW ();refine td 0 rfl ?_;refine td 1 rfl ?_;refine td 2 rfl ?_
       ((refine BN 3 rfl kr rfl rfl (fun w V=>Ao V X SlIn.h rfl Y Y Af Af ) ?_;rintro  v3 hp3;simp only [Int.toNat_natCast] at hp3))<;>apply nW ()
       refine tx 4 rfl (BZ (j:=m) X hp3 SlIn.h hR Y gA) ?_;rintro v4 ⟨c4,rfl,hc4⟩;refine td 5 rfl ?_;refine td 6 rfl ?_
       ((refine BN 7 rfl kr rfl rfl (fun w V=>Ao V X SlIn.h rfl Y Y Af Af ) ?_;rintro  v7 hp7;simp only [Int.toNat_natCast] at hp7))<;>apply nW ()
       refine tx 8 rfl (BZ (j:=h) X hp7 SlIn.h hR Y gB) ?_;rintro v8 ⟨c8,rfl,hc8⟩;(refine Ge 9 rfl kr rfl (fun S' M' w hS hM V=>cC w hS V c4 c8 hc4 hc8) rfl Y rfl rfl ?_)<;>apply nW ()
       refine tq 10 rfl (D6 rfl rfl gk) ?_;refine td 11 rfl ?_;apply jN ()
      | false =>
       have hnx:=Lib.hid (show ∀ t,a≤t→t < h+1→¬ Cb (xs.getD m AI) (xs.getD t AI) < 0 from fun t k1 k2=>DR.tr (hs1.le' DR k1 (show t≤h by omega) (by omega)) (of_decide_eq_false gy));repeat' ((apply ZZ 17);first|(apply O ();go_step)|fail)
       refine AD V kr ?_;clear V;intro ops;apply nW ();refine td 0 rfl ?_;refine td 1 rfl ?_;refine td 2 rfl ?_
       ((refine BN 3 rfl kr rfl rfl (fun w V=>Ao V X SlIn.h rfl Y Y Af Af ) ?_;rintro  v3 hp3;simp only [Int.toNat_natCast] at hp3))<;>apply nW ()
       refine tx 4 rfl (BZ (j:=m) X hp3 SlIn.h hR Y gA) ?_;rintro v4 ⟨c4,rfl,hc4⟩;refine td 5 rfl ?_;refine td 6 rfl ?_
       ((refine BN 7 rfl kr rfl rfl (fun w V=>Ao V X SlIn.h rfl Y Y Af Af ) ?_;rintro  v7 hp7;simp only [Int.toNat_natCast] at hp7))<;>apply nW ()
       refine tx 8 rfl (BZ (j:=h) X hp7 SlIn.h hR Y gB) ?_;rintro v8 ⟨c8,rfl,hc8⟩;(refine Ge 9 rfl kr rfl (fun S' M' w hS hM V=>cC w hS V c4 c8 hc4 hc8) rfl Y rfl rfl ?_)<;>apply nW ()
       refine tq 10 rfl (D6 rfl rfl gk) ?_;refine td 11 rfl ?_;apply jO ()
     ·obtain rfl:i=j:=by omega
      have h0:=Lib.hid (show GK AI xs xs m m (m+1) from Mq xs (.inl rfl) (Nat.le_refl _) (by omega));repeat' (first|(apply O ();go_step)|fail)
      go_loopw [17] (fun v13 wr=>∃ (k:Nat) (c':List Value) (ys:List TP),(i≤k∧k≤m)∧v13=.int .i64 k∧RL S c' ys∧Hid (GK AI xs ys k m (m+1))∧St S (.sl sv 63 4 Nqq c'::M) wr) (fun v _=>(intOf v).toNat)
      case atStart=>exact ⟨m,c,xs,by omega,rfl,hR,h0,V⟩
      case round =>
       clear V hR h0;obtain ⟨k,c',ys,hk,rfl,hR,hro,V⟩:=hrel;have hyl:ys.length=Nqq:=hro.out.1.length_eq.trans HN.out;by_cases hki:i < k
       ·have hjA:k < ys.length:=by omega
        have hjB:k - 1 < ys.length:=by omega
        have gA:=getD_some (d:=AI) hjA;have gB:=getD_some (d:=AI) hjB;have eb:((k:Int) - 1).toNat=k - 1:=by omega
        have hyl:=Lib.hid hyl;have hnx:=Lib.hid (Yq hro.out (by omega) hk.2 (show m < xs.length by rw [HN.out];omega));repeat' ((apply ZZ 23);first|(apply O ();go_step)|fail)
        refine AD V kr ?_;clear V;intro ops;apply nW ();refine td 0 rfl ?_;refine td 1 rfl ?_;(refine ED 2 rfl kr rfl rfl (fun _ _=>by exact Dn X) ?_)<;>apply nW ()
        (refine ED 3 rfl kr rfl rfl (fun _ _=>by exact Dn X) ?_)<;>apply nW ()
        (refine ED 4 rfl kr rfl rfl (fun _ _=>by exact DY rfl rfl Af) ?_)<;>apply nW ()
        refine td 5 rfl ?_;refine td 6 rfl ?_;refine tq 7 rfl (by exact DY rfl rfl Af) ?_
        ((refine BN 8 rfl kr rfl rfl (fun w V=>Ao V X SlIn.h rfl Y Y Af Af ) ?_;rintro  v8 hq8;rw [eb] at hq8))<;>apply nW ()
        refine tx 9 rfl (BZ (j:=k - 1) X hq8 SlIn.h hR Y gB) ?_;rintro v9 ⟨cb,rfl,hcb⟩;refine td 10 rfl ?_;refine td 11 rfl ?_
        ((refine BN 12 rfl kr rfl rfl (fun w V=>Ao V X SlIn.h rfl Y Y Af Af ) ?_;rintro  v12 hq12;simp only [Int.toNat_natCast] at hq12))<;>apply nW ()
        refine tx 13 rfl (BZ (j:=k) X hq12 SlIn.h hR Y gA) ?_;rintro v13 ⟨ca,rfl,hca⟩
        ((refine BN 14 rfl kr rfl rfl (fun w V=>Ao V X SlIn.h rfl Y Y Af Af ) ?_;rintro  v14 hq14;simp only [Int.toNat_natCast] at hq14))<;>apply nW ()
        refine AP 15 rfl kr ?_;intro w V K G;refine BV (u:=.agg cb.toArray) (cs:=cb) V X hq14 SlIn.h Y X rfl (Z.len hcb) (List.all_eq_true.2 (Z.one hcb)) (RL.at_len hR hjA) ?_;clear V;intro w V;apply nW ();(try replace V:=nH V);refine Bb G V ?_;clear V G K;(try clear w);apply nW ()
        ((refine BN 16 rfl kr rfl rfl (fun w V=>Ao V X SlIn.h rfl Y Y Af Af ) ?_;rintro  v16 hq16;rw [eb] at hq16))<;>apply nW ()
        refine AP 17 rfl kr ?_;intro w V K G;refine BV (u:=.agg ca.toArray) (cs:=ca) V X hq16 SlIn.h Y X rfl (Z.len hca) (List.all_eq_true.2 (Z.one hca)) (RL.at_len (RL.set hR hcb hjA) (by simpa using hjB)) ?_;clear V;intro w V;apply nW ();(try replace V:=nH V);refine Bb G V ?_;clear V G K;(try clear w);apply nW ();refine AJ kr ?_;clear ops;intro w V;have hq:=RL.set (RL.set hR hcb hjA) hca (show k - 1 < (ys.set k (ys.getD (k - 1) AI)).length by simpa using hjB);repeat' (first|(apply O ();go_step)|fail)
        go_roundw
        case rel=>exact ⟨k - 1,_,_,by omega,Qe hki,hq,hnx,V⟩
        case measure=>simp [intOf];omega
       ·have e:k=i:=by omega
        have hE:=Lib.hid (show CD AI a b xs ys∧Bn Cb AI ys a b by
         rw [e] at hro;have e2:b=m+1:=by omega
         rw [e2];exact ⟨(Lz hro.out (by omega) (by omega)).wide (by omega) (Nat.le_refl _),V3 DR hs1 hro.out (by omega) (by omega) hse.out.1 hse.out.2⟩)
        apply jE ()
   ·skip
    have g0:((m:Int) - (a:Int) == 1)=false:=beq_eq_false_iff_ne.2 (by omega);have g1:((b:Int) - (m:Int) == 1)=false:=beq_eq_false_iff_ne.2 (by omega);obtain ⟨q,eq,hq⟩:∃ q:Nat,((a:Int)+(b:Int)) / 2=(q:Int)∧2 * q≤a+b∧a+b≤2 * q+1:=⟨(a+b) / 2,by omega,by omega,by omega⟩
    obtain ⟨n,en,hn⟩:∃ n:Nat,(q:Int)+(m:Int)=(n:Int)∧n≤q+m∧q+m≤n:=⟨q+m,by omega,by omega,by omega⟩
    obtain ⟨p,ep,L⟩:∃ p:Nat,(n:Int) - 1=(p:Int)∧n≤p+1∧p+1≤n:=⟨n - 1,by omega,by omega,by omega⟩
    have key:∃ lo hi:Nat,(((n:Int) - (b:Int)=(lo:Int)∧hi=q∧m > q)∨(lo=a∧hi=m∧¬ m > q))∧(a≤lo∧lo≤hi∧hi≤m∧hi≤q∧n≤lo+b)∧(lo=a∨n=lo+b)∧(hi=m∨hi=q):=by
     by_cases k:m > q
     ·exact ⟨n - b,q,.inl ⟨by omega,rfl,k⟩,by omega,.inr (by omega),.inr rfl⟩
     ·exact ⟨a,m,.inr ⟨rfl,rfl,k⟩,by omega,.inl rfl,.inl rfl⟩
    obtain ⟨lo,hi,f1,f3,f4,f5⟩:=key;have F4:=Lib.hid f4;have F5:=Lib.hid f5;clear f4 f5;have h0:=Lib.hid (show Ow Cb AI xs p lo hi lo hi from ⟨fun c k1 k2=>by omega,fun c k1 k2=>by omega⟩);rcases f1 with ⟨elo,ehi,hmq⟩|⟨elo,ehi,hmq⟩
    all_goals
     go_enter func94,ntmps94;repeat' (first|apply sK ()|(apply O ();go_step)|fail)
     go_loopw [20,21,23] (fun v1 v2 _ wr=>∃ (s r:Nat),(lo≤s∧s≤r∧r≤hi)∧v1=.int .i64 s∧v2=.int .i64 r∧Hid (Ow Cb AI xs p lo hi s r)∧St S (.sl sv 63 4 Nqq c::M) wr) (fun v v2 _ _=>(intOf v2).toNat - (intOf v).toNat)
     case atStart=>exact ⟨lo,hi,by omega,by first|rfl|rw [elo],by first|rfl|rw [ehi],h0,V⟩
     case round =>
      clear V h0 eq en ep elo ehi hmq g0 g1;obtain ⟨s,r,hsr,rfl,rfl,hse,V⟩:=hrel;by_cases hlt:s < r
      ·obtain ⟨h,eh,hh⟩:∃ h:Nat,((s:Int)+(r:Int)) / 2=(h:Int)∧s≤h∧h < r:=⟨(s+r) / 2,by omega,by omega,by omega⟩
       obtain ⟨u,eu,hu⟩:∃ u:Nat,((p:Int) - (h:Int)).toNat=u∧p≤u+h∧u+h≤p∧m≤u∧u < b:=⟨p - h,by omega,by omega,by omega,by omega,by omega⟩
       have hA0:u < xs.length:=by rw [HN.out];omega
       have hB0:h < xs.length:=by rw [HN.out];omega
       have gA:=getD_some (d:=AI) hA0;have gB:=getD_some (d:=AI) hB0;have HU:=Lib.hid (show p - h=u by omega);have cC:=fun {S':Ad} {M:List J} (w:World) (hS:S.Le S') (V:St S' M w) (c1 c2:List Value) (h1:Z.R S c1 (xs.getD u AI)) (h2:Z.R S c2 (xs.getD h AI))=>Nj w V c1 _ (Z.mono hS h1) c2 _ (Z.mono hS h2)
       obtain ⟨y,gy⟩:∃ y,decide (Cb (xs.getD u AI) (xs.getD h AI) < 0)=y:=⟨_,rfl⟩
       have gk:=(hS0.out.lt (show h < u by omega) hA0).trans gy
       cases y with
       | true =>
        have hnx:=Lib.hid (Vi DR hs1 hs2 hse.out (c:=h) (by omega) (by omega) (by omega) (by omega) (by omega) (by rw [HU.out];exact of_decide_eq_true gy));repeat' ((apply ZZ 35);first|(apply O ();go_step)|fail)
        refine AD V kr ?_;clear V;intro ops;apply nW ();refine td 0 rfl ?_;refine td 1 rfl ?_;refine td 2 rfl ?_;refine td 3 rfl ?_;refine tq 4 rfl (by exact DY rfl rfl Af) ?_
        ((refine BN 5 rfl kr rfl rfl (fun w V=>Ao V X SlIn.h rfl Y Y Af Af ) ?_;rintro  v5 hp5;rw [eu] at hp5))<;>apply nW ()
        refine tx 6 rfl (BZ (j:=u) X hp5 SlIn.h hR Y gA) ?_;rintro v6 ⟨c6,rfl,hc6⟩;refine td 7 rfl ?_;refine td 8 rfl ?_
        ((refine BN 9 rfl kr rfl rfl (fun w V=>Ao V X SlIn.h rfl Y Y Af Af ) ?_;rintro  v9 hp9;simp only [Int.toNat_natCast] at hp9))<;>apply nW ()
        refine tx 10 rfl (BZ (j:=h) X hp9 SlIn.h hR Y gB) ?_;rintro v10 ⟨c10,rfl,hc10⟩;(refine Ge 11 rfl kr rfl (fun S' M' w hS hM V=>cC w hS V c6 c10 hc6 hc10) rfl Y rfl rfl ?_)<;>apply nW ()
        refine tq 12 rfl (D6 rfl rfl gk) ?_;refine td 13 rfl ?_;refine AJ kr ?_;clear ops;intro w V;repeat' (first|(apply O ();go_step)|fail)
        go_roundw
        case rel=>exact ⟨s,h,by omega,rfl,rfl,hnx,V⟩
        case measure=>simp [intOf];omega
       | false =>
        have hnx:=Lib.hid (aX DR hs1 hs2 hse.out (c:=h) (by omega) (by omega) (by omega) (by omega) (by omega) (by omega) (by rw [HU.out];exact of_decide_eq_false gy));repeat' ((apply ZZ 35);first|(apply O ();go_step)|fail)
        refine AD V kr ?_;clear V;intro ops;apply nW ();refine td 0 rfl ?_;refine td 1 rfl ?_;refine td 2 rfl ?_;refine td 3 rfl ?_;refine tq 4 rfl (by exact DY rfl rfl Af) ?_
        ((refine BN 5 rfl kr rfl rfl (fun w V=>Ao V X SlIn.h rfl Y Y Af Af ) ?_;rintro  v5 hp5;rw [eu] at hp5))<;>apply nW ()
        refine tx 6 rfl (BZ (j:=u) X hp5 SlIn.h hR Y gA) ?_;rintro v6 ⟨c6,rfl,hc6⟩;refine td 7 rfl ?_;refine td 8 rfl ?_
        ((refine BN 9 rfl kr rfl rfl (fun w V=>Ao V X SlIn.h rfl Y Y Af Af ) ?_;rintro  v9 hp9;simp only [Int.toNat_natCast] at hp9))<;>apply nW ()
        refine tx 10 rfl (BZ (j:=h) X hp9 SlIn.h hR Y gB) ?_;rintro v10 ⟨c10,rfl,hc10⟩;(refine Ge 11 rfl kr rfl (fun S' M' w hS hM V=>cC w hS V c6 c10 hc6 hc10) rfl Y rfl rfl ?_)<;>apply nW ()
        refine tq 12 rfl (D6 rfl rfl gk) ?_;refine td 13 rfl ?_;refine AJ kr ?_;clear ops;intro w V;repeat' (first|(apply O ();go_step)|fail)
        go_roundw
        case rel=>exact ⟨h+1,r,by omega,by go_num,rfl,hnx,V⟩
        case measure=>simp [intOf];omega
      ·obtain rfl:s=r:=by omega
       obtain ⟨e,ee,he⟩:∃ e:Nat,(n:Int) - (s:Int)=(e:Int)∧n≤e+s∧e+s≤n:=⟨n - s,by omega,by omega,by omega⟩
       have hse1:a≤s:=by omega
       have hse2:s≤m:=by omega
       have hse3:m≤e:=by omega
       have hse4:e≤b:=by omega
       have hqe:q≤e:=by omega
       have hqs:s≤q∧q < b∧a < q:=by omega
       have hA:s=a∨e=b∨le Cb (xs.getD (s - 1) AI) (xs.getD e AI):=by
        by_cases k:lo < s
        ·have:=hse.out.1 (s - 1) (by omega) (by omega);rw [show p - (s - 1)=e by omega] at this;exact .inr (.inr this)
        ·rcases F4.out with k2|k2
         ·exact .inl (by omega)
         ·exact .inr (.inl (by omega))
       have hB:e=m∨s=m∨Cb (xs.getD (e - 1) AI) (xs.getD s AI) < 0:=by
        by_cases k:s < hi
        ·have:=hse.out.2 s (Nat.le_refl _) k;rw [show p - s=e - 1 by omega] at this;exact .inr (.inr this)
        ·rcases F5.out with k2|k2
         ·exact .inr (.inl (by omega))
         ·exact .inl (by omega)
       have HQ:=Lib.hid (show q=s+(e - m) by omega);by_cases hrot:s < m∧m < e
       ·repeat' ((apply ZZ 41);first|apply sG ()|(apply O ();go_step)|(apply kc ();refine sc (Yp _ sv Nqq xs HN.out c V hR s m e hrot.1 hrot.2 (by omega) hx) ?_;clear V;rintro v w ⟨c2,zs,hR2,hro0,V⟩)|fail)
        have hro:=Lib.hid hro0;clear hro0;have hzl:zs.length=Nqq:=hro.out.1.length_eq.trans HN.out;obtain ⟨hz1,hz2,hz3,hz4,hx0⟩:=OG DR hs1 hs2 hro.out hse1 hse2 hse3 hse4 HQ.out hA hB;have hx1:=Lib.hid hx0
        have hZ:=Lib.hid (hS0.out.rot hro.out hse2 hse3 (show e≤xs.length by rw [HN.out];omega) (fun i j k1 k2 k3 k4=>by
         rcases hB with hB|hB|hB
         ·omega
         ·omega
         ·exact le_lt DR (hs2.le' DR k3 (show j≤e - 1 by omega) (by omega)) (Srt.lt_le DR hB (hs1.le' DR hse1 k1 k2))))
        have hup:=Lib.hid (show CD AI a b xs zs from (Lz hro.out hse2 hse3).wide hse1 hse4);clear hA hB hx0 hs1 hs2;by_cases hq1:a < s∧s < q
        ·have hle1:q - a≤Lqq:=by omega
         repeat' ((apply ZZ 43);first|apply sG ()|(apply O ();go_step)|(apply kc ();refine sc (ih _ sv Nqq zs hzl c2 V hR2 a s q hq1.1 hq1.2 (by omega) hx hle1 hz1 hz2 hZ) ?_;clear V;rintro v w ⟨c3,ys1,hR3,hu,hs,V⟩)|fail)
         have hl1:ys1.length=Nqq:=hu.len.trans hzl;replace hz3:=J9 hz3 hu (.inr (Nat.le_refl _));replace hz4:=J9 hz4 hu (.inr hqe);have hu3:=Lib.hid hu;have hs3:=Lib.hid hs;clear hu hs;apply kx ()
        ·have hs30:Bn Cb AI zs a q:=by
          apply jw ()
         repeat' ((apply ZZ 43);first|go_skip|(with_reducible refine Sl.k_guard ?_;(refine Sl.guard_cases rfl ?_ ?_<;>intro hg<;>first|exact gX|(simp only [hg,Bool.not_true,Bool.not_false]))<;>(try replace hg:=gN hg)<;>apply nW ())|(apply O ();go_step)|fail)
         all_goals first
          | (exfalso;omega)
          | skip
         all_goals
          obtain ⟨ys1,c3,hR3,⟨hu3,hs3,hl1,hz3,hz4⟩,V⟩:=Ol (P:=fun ys=>Hid (CD AI a q zs ys)∧Hid (Bn Cb AI ys a q)∧ys.length=Nqq∧Bn Cb AI ys q e∧Bn Cb AI ys e b) hR2 ⟨Lib.hid (CD.refl a q zs),Lib.hid hs30,hzl,hz3,hz4⟩ V;apply kx ()
       ·have hro:=Lib.hid (show GK AI xs xs s m e from Mq xs (by omega) hse2 hse3);repeat' ((apply ZZ 41);first|go_skip|apply sG ()|(with_reducible refine Sl.k_guard ?_;refine Sl.guard_cases rfl ?_ ?_<;>intro hg<;>(simp only [hg,Bool.not_true,Bool.not_false])<;>(try replace hg:=gN hg)<;>apply nW ())|(apply O ();go_step)|fail)
        all_goals first
         | (exfalso;omega)
         | skip
        all_goals
         obtain ⟨zs,c2,hR2,hro,V⟩:=Ol (P:=fun zs=>Hid (GK AI xs zs s m e)) hR hro V;have hzl:zs.length=Nqq:=hro.out.1.length_eq.trans HN.out;obtain ⟨hz1,hz2,hz3,hz4,hx0⟩:=OG DR hs1 hs2 hro.out hse1 hse2 hse3 hse4 HQ.out hA hB;have hx1:=Lib.hid hx0
         have hZ:=Lib.hid (hS0.out.rot hro.out hse2 hse3 (show e≤xs.length by rw [HN.out];omega) (fun i j k1 k2 k3 k4=>by
          rcases hB with hB|hB|hB
          ·omega
          ·omega
          ·exact le_lt DR (hs2.le' DR k3 (show j≤e - 1 by omega) (by omega)) (Srt.lt_le DR hB (hs1.le' DR hse1 k1 k2))))
         have hup:=Lib.hid (show CD AI a b xs zs from (Lz hro.out hse2 hse3).wide hse1 hse4);clear hA hB hx0 hs1 hs2;by_cases hq1:a < s∧s < q
         ·have hle1:q - a≤Lqq:=by omega
          repeat' ((apply ZZ 43);first|apply sG ()|(apply O ();go_step)|(apply kc ();refine sc (ih _ sv Nqq zs hzl c2 V hR2 a s q hq1.1 hq1.2 (by omega) hx hle1 hz1 hz2 hZ) ?_;clear V;rintro v w ⟨c3,ys1,hR3,hu,hs,V⟩)|fail)
          have hl1:ys1.length=Nqq:=hu.len.trans hzl;replace hz3:=J9 hz3 hu (.inr (Nat.le_refl _));replace hz4:=J9 hz4 hu (.inr hqe);have hu3:=Lib.hid hu;have hs3:=Lib.hid hs;clear hu hs;apply kw ()
         ·have hs30:Bn Cb AI zs a q:=by
           apply jw ()
          repeat' ((apply ZZ 43);first|apply sG ()|(with_reducible refine Sl.k_guard ?_;refine Sl.guard_cases rfl ?_ ?_<;>intro hg<;>first|exact gX|(simp only [hg,Bool.not_true,Bool.not_false])<;>(try replace hg:=gN hg)<;>apply nW ())|(apply O ();go_step)|fail)
          all_goals first
           | (exfalso;omega)
           | skip
          all_goals
           obtain ⟨ys1,c3,hR3,⟨hu3,hs3,hl1,hz3,hz4⟩,V⟩:=Ol (P:=fun ys=>Hid (CD AI a q zs ys)∧Hid (Bn Cb AI ys a q)∧ys.length=Nqq∧Bn Cb AI ys q e∧Bn Cb AI ys e b) hR2 ⟨Lib.hid (CD.refl a q zs),Lib.hid hs30,hzl,hz3,hz4⟩ V;apply kw ()
end Go.Proofs.YtmmbidoldegemaaGreatDoor
