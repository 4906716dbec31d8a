/- Part 34 of the proof that the law of the last part holds; no conditions. -/
import Derived.Test.YtmmbidoldegemaaGreatDoorZ32
set_option linter.unusedSimpArgs false
set_option linter.unusedVariables false
set_option maxRecDepth 8000
set_option maxHeartbeats 8000000
namespace Go.Proofs.YtmmbidoldegemaaGreatDoor
open Go.RowKit Go.Sl Go.Srt
theorem Np {S:Ac} {M:List Chunk} {w:World} {sv:Value} {N:Nat} {c:List Value} {xs:List TP} {P:List TP→Prop} (hR:RL S c xs) (hP:P xs) (hst:St S (.sl sv 63 4 N c::M) w):∃ zs c2,RL S c2 zs∧P zs∧St S (.sl sv 63 4 N c2::M) w:=⟨xs,c,hR,hP,hst⟩
theorem TU:∀ (L:Nat) {S M} (w:World) (sv:Value) (N:Nat) (xs:List TP) (_hN:xs.length=N) (c:List Value) (_hst:St S (.sl sv 63 4 N c::M) w) (_hR:RL S c xs) (a m b:Nat) (_ham:a < m) (_hmb:m < b) (_hb:b≤N) (_hx:N≤1000000) (_hL:b - a≤L) (_hs1:Bc BW AD xs a m) (_hs2:Bc BW AD xs m b) (_hS0:Hid (Dl kP AD xs)),
  Ad Tryz.prog 94 [sv,.int .i64 a,.int .i64 m,.int .i64 b,LO] w fun _ w'=>∃ c' ys,RL S c' ys∧Cp AD a b xs ys∧Bc BW AD ys a b∧St S (.sl sv 63 4 N c'::M) w':=by
 intro L
 induction L with
 | zero=>intro S M w sv N xs hN c hst hR a m b ham hmb hb hx hL;omega
 | succ L ih =>
  intro S M w sv N xs hN c hst hR a m b ham hmb hb hx hL hs1 hs2 hS0;unfold Ad;have hone:=AW hst;have HN:=Lib.hid hN;clear hN;by_cases h1:m=a+1
  ·skip
   have g1:((m:Int) - (a:Int) == 1)=true:=beq_iff_eq.2 (by omega);have H1:=Lib.hid h1;have hm1:m≤a+1∧a+1≤m:=by omega
   clear h1 hs1;go_enter Tryz.func94,Tryz.ntmps94;repeat' (first|apply sK ()|(apply gK ();go_step)|fail)
   clear g1
   go_loopw [10,11,12] (fun v10 v11 _ wr=>∃ (i j:Nat),(m≤i∧i≤j∧j≤b)∧v10=.int .i64 i∧v11=.int .i64 j∧Hid ((∀ t,m≤t→t < i→BW (xs.getD t AD) (xs.getD a AD) < 0)∧∀ t,j≤t→t < b→¬ BW (xs.getD t AD) (xs.getD a AD) < 0)∧St S (.sl sv 63 4 N c::M) wr) (fun v v2 _ _=>(intOf v2).toNat - (intOf v).toNat)
   case atStart=>exact ⟨m,b,by omega,rfl,rfl,Lib.hid ⟨fun t h1 h2=>by omega,fun t h1 h2=>by omega⟩,hst⟩
   case round =>
    clear hst;obtain ⟨i,j,hij,rfl,rfl,hse,hst⟩:=hrel;by_cases hlt:i < j
    ·obtain ⟨h,eh,hh⟩:∃ h:Nat,((i:Int)+(j:Int)) / 2=(h:Int)∧i≤h∧h < j:=⟨(i+j) / 2,by omega,by omega,by omega⟩
     have hA0:h < xs.length:=by rw [HN.out];omega
     have hB0:a < xs.length:=by rw [HN.out];omega
     have gA:=getD_some (d:=AD) hA0;have gB:=getD_some (d:=AD) hB0;have cC:=fun {S':Ac} {M:List Chunk} (w:World) (hS:S.Le S') (hst:St S' M w) (c1 c2:List Value) (h1:Rep.R S c1 (xs.getD h AD)) (h2:Rep.R S c2 (xs.getD a AD))=>Mj w hst c1 _ (Rep.mono hS h1) c2 _ (Rep.mono hS h2)
     obtain ⟨y,gy⟩:∃ y,decide (BW (xs.getD h AD) (xs.getD a AD) < 0)=y:=⟨_,rfl⟩
     have gk:=(hS0.out.lt (show a < h by omega) hA0).trans gy
     cases y with
     | true =>
      have hnx:=Lib.hid (show ∀ t,m≤t→t < h+1→BW (xs.getD t AD) (xs.getD a AD) < 0 from fun t k1 k2=>le_lt Ej (hs2.le' Ej k1 (show t≤h by omega) (by omega)) (of_decide_eq_true gy));repeat' ((apply Z5 ());first|(apply gK ();go_step)|fail)
      refine AF hst kr ?_;clear hst;intro ops;(try refine nX ?_);refine td 0 rfl ?_;refine td 1 rfl ?_;refine td 2 rfl ?_
      ((refine Bz 3 rfl kr rfl rfl (fun w hst=>Aq hst Ab SlIn.h rfl Aa Aa Af Af ) ?_;rintro  v3 hp3;simp only [Int.toNat_natCast] at hp3))<;>(try refine nX ?_)
      refine tx 4 rfl (BP (j:=h) Ab hp3 SlIn.h hR Aa gA) ?_;rintro v4 ⟨c4,rfl,hc4⟩;refine td 5 rfl ?_;refine td 6 rfl ?_
      ((refine Bz 7 rfl kr rfl rfl (fun w hst=>Aq hst Ab SlIn.h rfl Aa Aa Af Af ) ?_;rintro  v7 hp7;simp only [Int.toNat_natCast] at hp7))<;>(try refine nX ?_)
      refine tx 8 rfl (BP (j:=a) Ab hp7 SlIn.h hR Aa gB) ?_;rintro v8 ⟨c8,rfl,hc8⟩;(refine FF 9 rfl kr rfl (fun S' M' w hS hM hst=>cC w hS hst c4 c8 hc4 hc8) rfl Aa rfl rfl ?_)<;>(try refine nX ?_)
      refine tq 10 rfl (DG rfl rfl gk) ?_;apply gW ()
     | false =>
      have hnx:=Lib.hid (show ∀ t,h≤t→t < b→¬ BW (xs.getD t AD) (xs.getD a AD) < 0 from fun t k1 k2=>Ej.tr (of_decide_eq_false gy) (hs2.le' Ej (by omega) k1 k2));repeat' ((apply Z5 ());first|(apply gK ();go_step)|fail)
      refine AF hst kr ?_;clear hst;intro ops;(try refine nX ?_);refine td 0 rfl ?_;refine td 1 rfl ?_;refine td 2 rfl ?_
      ((refine Bz 3 rfl kr rfl rfl (fun w hst=>Aq hst Ab SlIn.h rfl Aa Aa Af Af ) ?_;rintro  v3 hp3;simp only [Int.toNat_natCast] at hp3))<;>(try refine nX ?_)
      refine tx 4 rfl (BP (j:=h) Ab hp3 SlIn.h hR Aa gA) ?_;rintro v4 ⟨c4,rfl,hc4⟩;refine td 5 rfl ?_;refine td 6 rfl ?_
      ((refine Bz 7 rfl kr rfl rfl (fun w hst=>Aq hst Ab SlIn.h rfl Aa Aa Af Af ) ?_;rintro  v7 hp7;simp only [Int.toNat_natCast] at hp7))<;>(try refine nX ?_)
      refine tx 8 rfl (BP (j:=a) Ab hp7 SlIn.h hR Aa gB) ?_;rintro v8 ⟨c8,rfl,hc8⟩;(refine FF 9 rfl kr rfl (fun S' M' w hS hM hst=>cC w hS hst c4 c8 hc4 hc8) rfl Aa rfl rfl ?_)<;>(try refine nX ?_)
      refine tq 10 rfl (DG rfl rfl gk) ?_;apply gU ()
    ·obtain rfl:i=j:=by omega
     have h0:=Lib.hid (show Gd AD xs xs a (a+1) (a+1) from Ly xs (.inr rfl) (by omega) (Nat.le_refl _));repeat' (first|(apply gK ();go_step)|fail)
     go_loopw [13] (fun v13 wr=>∃ (k:Nat) (c':List Value) (ys:List TP),(a≤k∧k+1≤i)∧v13=.int .i64 k∧RL S c' ys∧Hid (Gd AD xs ys a (a+1) (k+1))∧St S (.sl sv 63 4 N c'::M) wr) (fun v _=>i - (intOf v).toNat)
     case atStart=>exact ⟨a,c,xs,by omega,rfl,hR,h0,hst⟩
     case round =>
      clear hst hR h0;obtain ⟨k,c',ys,hk,rfl,hR,hro,hst⟩:=hrel;have hyl:ys.length=N:=hro.out.1.length_eq.trans HN.out;by_cases hki:k+1 < i
      ·have hjA:k < ys.length:=by omega
       have hjB:k+1 < ys.length:=by omega
       have gA:=getD_some (d:=AD) hjA;have gB:=getD_some (d:=AD) hjB;have hyl:=Lib.hid hyl;have hnx:=Lib.hid (Uy hro.out hk.1 (show k+1 < xs.length by rw [HN.out];omega));repeat' ((apply MO ());first|(apply gK ();go_step)|fail)
       refine AF hst kr ?_;clear hst;intro ops;(try refine nX ?_);refine td 0 rfl ?_;refine td 1 rfl ?_;(refine Ee 2 rfl kr rfl rfl (fun _ _=>by exact C4 Ab) ?_)<;>(try refine nX ?_)
       (refine Ee 3 rfl kr rfl rfl (fun _ _=>by exact C4 Ab) ?_)<;>(try refine nX ?_)
       (refine Ee 4 rfl kr rfl rfl (fun _ _=>by exact DV rfl rfl Af) ?_)<;>(try refine nX ?_)
       refine td 5 rfl ?_;refine td 6 rfl ?_;refine tq 7 rfl (by exact DV rfl rfl Af) ?_
       ((refine Bz 8 rfl kr rfl rfl (fun w hst=>Aq hst Ab SlIn.h rfl Aa Aa Af Af ) ?_;rintro  v8 hq8;simp only [Int.toNat_natCast_add_one] at hq8))<;>(try refine nX ?_)
       refine tx 9 rfl (BP (j:=k+1) Ab hq8 SlIn.h hR Aa gB) ?_;rintro v9 ⟨cb,rfl,hcb⟩;refine td 10 rfl ?_;refine td 11 rfl ?_
       ((refine Bz 12 rfl kr rfl rfl (fun w hst=>Aq hst Ab SlIn.h rfl Aa Aa Af Af ) ?_;rintro  v12 hq12;simp only [Int.toNat_natCast] at hq12))<;>(try refine nX ?_)
       refine tx 13 rfl (BP (j:=k) Ab hq12 SlIn.h hR Aa gA) ?_;rintro v13 ⟨ca,rfl,hca⟩
       ((refine Bz 14 rfl kr rfl rfl (fun w hst=>Aq hst Ab SlIn.h rfl Aa Aa Af Af ) ?_;rintro  v14 hq14;simp only [Int.toNat_natCast] at hq14))<;>(try refine nX ?_)
       refine AR 15 rfl kr ?_;intro w hst K hK;refine BJ (u:=.agg cb.toArray) (cs:=cb) hst Ab hq14 SlIn.h Aa Ab rfl (Rep.len hcb) (List.all_eq_true.2 (Rep.one hcb)) (RL.at_len hR hjA) ?_;clear hst;intro w hst;(try refine nX ?_);(try replace hst:=nH hst);refine Bb hK hst ?_;clear hst hK K;(try clear w);(try refine nX ?_)
       ((refine Bz 16 rfl kr rfl rfl (fun w hst=>Aq hst Ab SlIn.h rfl Aa Aa Af Af ) ?_;rintro  v16 hq16;simp only [Int.toNat_natCast_add_one] at hq16))<;>(try refine nX ?_)
       refine AR 17 rfl kr ?_;intro w hst K hK;refine BJ (u:=.agg ca.toArray) (cs:=ca) hst Ab hq16 SlIn.h Aa Ab rfl (Rep.len hca) (List.all_eq_true.2 (Rep.one hca)) (RL.at_len (RL.set hR hcb hjA) (by simpa using hjB)) ?_;clear hst;intro w hst;(try refine nX ?_);(try replace hst:=nH hst);refine Bb hK hst ?_;clear hst hK K;(try clear w);(try refine nX ?_);refine AK kr ?_;clear ops;intro w hst;have hq:=RL.set (RL.set hR hcb hjA) hca (show k+1 < (ys.set k (ys.getD (k+1) AD)).length by simpa using hjB);repeat' (first|(apply gK ();go_step)|fail)
       go_roundw
       case rel=>exact ⟨k+1,_,_,by omega,by go_num,hq,hnx,hst⟩
       case measure=>simp [intOf];omega
      ·have e:k+1=i:=by omega
       have hE:=Lib.hid (show Cp AD a b xs ys∧Bc BW AD ys a b by
        rw [e] at hro;rw [H1.out] at hs2 hse;exact ⟨(KK hro.out (by omega) (by omega)).wide (Nat.le_refl _) (by omega),Xw Ej hs2 hro.out (by omega) (by omega) hse.out.1 hse.out.2⟩)
       apply gM ()
  ·by_cases h2:b=m+1
   ·skip
    have g0:((m:Int) - (a:Int) == 1)=false:=beq_eq_false_iff_ne.2 (by omega);have g1:((b:Int) - (m:Int) == 1)=true:=beq_iff_eq.2 (by omega);have H1:=Lib.hid h2;have hm1:b≤m+1∧m+1≤b:=by omega
    clear h2 hs2;go_enter Tryz.func94,Tryz.ntmps94;repeat' (first|apply sK ()|(apply gK ();go_step)|fail)
    clear g0 g1
    go_loopw [14,15,16] (fun v10 v11 _ wr=>∃ (i j:Nat),(a≤i∧i≤j∧j≤m)∧v10=.int .i64 i∧v11=.int .i64 j∧Hid ((∀ t,a≤t→t < i→¬ BW (xs.getD m AD) (xs.getD t AD) < 0)∧∀ t,j≤t→t < m→BW (xs.getD m AD) (xs.getD t AD) < 0)∧St S (.sl sv 63 4 N c::M) wr) (fun v v2 _ _=>(intOf v2).toNat - (intOf v).toNat)
    case atStart=>exact ⟨a,m,by omega,rfl,rfl,Lib.hid ⟨fun t h1 h2=>by omega,fun t h1 h2=>by omega⟩,hst⟩
    case round =>
     clear hst;obtain ⟨i,j,hij,rfl,rfl,hse,hst⟩:=hrel;by_cases hlt:i < j
     ·obtain ⟨h,eh,hh⟩:∃ h:Nat,((i:Int)+(j:Int)) / 2=(h:Int)∧i≤h∧h < j:=⟨(i+j) / 2,by omega,by omega,by omega⟩
      have hA0:m < xs.length:=by rw [HN.out];omega
      have hB0:h < xs.length:=by rw [HN.out];omega
      have gA:=getD_some (d:=AD) hA0;have gB:=getD_some (d:=AD) hB0;have cC:=fun {S':Ac} {M:List Chunk} (w:World) (hS:S.Le S') (hst:St S' M w) (c1 c2:List Value) (h1:Rep.R S c1 (xs.getD m AD)) (h2:Rep.R S c2 (xs.getD h AD))=>Mj w hst c1 _ (Rep.mono hS h1) c2 _ (Rep.mono hS h2)
      obtain ⟨y,gy⟩:∃ y,decide (BW (xs.getD m AD) (xs.getD h AD) < 0)=y:=⟨_,rfl⟩
      have gk:=(hS0.out.lt (show h < m by omega) hA0).trans gy
      cases y with
      | true =>
       have hnx:=Lib.hid (show ∀ t,h≤t→t < m→BW (xs.getD m AD) (xs.getD t AD) < 0 from fun t k1 k2=>Srt.lt_le Ej (of_decide_eq_true gy) (hs1.le' Ej (by omega) k1 k2));repeat' ((apply KB ());first|(apply gK ();go_step)|fail)
       refine AF hst kr ?_;clear hst;intro ops;(try refine nX ?_);refine td 0 rfl ?_;refine td 1 rfl ?_;refine td 2 rfl ?_
       ((refine Bz 3 rfl kr rfl rfl (fun w hst=>Aq hst Ab SlIn.h rfl Aa Aa Af Af ) ?_;rintro  v3 hp3;simp only [Int.toNat_natCast] at hp3))<;>(try refine nX ?_)
       refine tx 4 rfl (BP (j:=m) Ab hp3 SlIn.h hR Aa gA) ?_;rintro v4 ⟨c4,rfl,hc4⟩;refine td 5 rfl ?_;refine td 6 rfl ?_
       ((refine Bz 7 rfl kr rfl rfl (fun w hst=>Aq hst Ab SlIn.h rfl Aa Aa Af Af ) ?_;rintro  v7 hp7;simp only [Int.toNat_natCast] at hp7))<;>(try refine nX ?_)
       refine tx 8 rfl (BP (j:=h) Ab hp7 SlIn.h hR Aa gB) ?_;rintro v8 ⟨c8,rfl,hc8⟩;(refine FF 9 rfl kr rfl (fun S' M' w hS hM hst=>cC w hS hst c4 c8 hc4 hc8) rfl Aa rfl rfl ?_)<;>(try refine nX ?_)
       refine tq 10 rfl (DG rfl rfl gk) ?_;refine td 11 rfl ?_;apply gU ()
      | false =>
       have hnx:=Lib.hid (show ∀ t,a≤t→t < h+1→¬ BW (xs.getD m AD) (xs.getD t AD) < 0 from fun t k1 k2=>Ej.tr (hs1.le' Ej k1 (show t≤h by omega) (by omega)) (of_decide_eq_false gy));repeat' ((apply KB ());first|(apply gK ();go_step)|fail)
       refine AF hst kr ?_;clear hst;intro ops;(try refine nX ?_);refine td 0 rfl ?_;refine td 1 rfl ?_;refine td 2 rfl ?_
       ((refine Bz 3 rfl kr rfl rfl (fun w hst=>Aq hst Ab SlIn.h rfl Aa Aa Af Af ) ?_;rintro  v3 hp3;simp only [Int.toNat_natCast] at hp3))<;>(try refine nX ?_)
       refine tx 4 rfl (BP (j:=m) Ab hp3 SlIn.h hR Aa gA) ?_;rintro v4 ⟨c4,rfl,hc4⟩;refine td 5 rfl ?_;refine td 6 rfl ?_
       ((refine Bz 7 rfl kr rfl rfl (fun w hst=>Aq hst Ab SlIn.h rfl Aa Aa Af Af ) ?_;rintro  v7 hp7;simp only [Int.toNat_natCast] at hp7))<;>(try refine nX ?_)
       refine tx 8 rfl (BP (j:=h) Ab hp7 SlIn.h hR Aa gB) ?_;rintro v8 ⟨c8,rfl,hc8⟩;(refine FF 9 rfl kr rfl (fun S' M' w hS hM hst=>cC w hS hst c4 c8 hc4 hc8) rfl Aa rfl rfl ?_)<;>(try refine nX ?_)
       refine tq 10 rfl (DG rfl rfl gk) ?_;refine td 11 rfl ?_;apply gW ()
     ·obtain rfl:i=j:=by omega
      have h0:=Lib.hid (show Gd AD xs xs m m (m+1) from Ly xs (.inl rfl) (Nat.le_refl _) (by omega));repeat' (first|(apply gK ();go_step)|fail)
      go_loopw [17] (fun v13 wr=>∃ (k:Nat) (c':List Value) (ys:List TP),(i≤k∧k≤m)∧v13=.int .i64 k∧RL S c' ys∧Hid (Gd AD xs ys k m (m+1))∧St S (.sl sv 63 4 N c'::M) wr) (fun v _=>(intOf v).toNat)
      case atStart=>exact ⟨m,c,xs,by omega,rfl,hR,h0,hst⟩
      case round =>
       clear hst hR h0;obtain ⟨k,c',ys,hk,rfl,hR,hro,hst⟩:=hrel;have hyl:ys.length=N:=hro.out.1.length_eq.trans HN.out;by_cases hki:i < k
       ·have hjA:k < ys.length:=by omega
        have hjB:k - 1 < ys.length:=by omega
        have gA:=getD_some (d:=AD) hjA;have gB:=getD_some (d:=AD) hjB;have eb:((k:Int) - 1).toNat=k - 1:=by omega
        have hyl:=Lib.hid hyl;have hnx:=Lib.hid (WZ hro.out (by omega) hk.2 (show m < xs.length by rw [HN.out];omega));repeat' ((apply lH ());first|(apply gK ();go_step)|fail)
        refine AF hst kr ?_;clear hst;intro ops;(try refine nX ?_);refine td 0 rfl ?_;refine td 1 rfl ?_;(refine Ee 2 rfl kr rfl rfl (fun _ _=>by exact C4 Ab) ?_)<;>(try refine nX ?_)
        (refine Ee 3 rfl kr rfl rfl (fun _ _=>by exact C4 Ab) ?_)<;>(try refine nX ?_)
        (refine Ee 4 rfl kr rfl rfl (fun _ _=>by exact C3 rfl rfl Af) ?_)<;>(try refine nX ?_)
        refine td 5 rfl ?_;refine td 6 rfl ?_;refine tq 7 rfl (by exact C3 rfl rfl Af) ?_
        ((refine Bz 8 rfl kr rfl rfl (fun w hst=>Aq hst Ab SlIn.h rfl Aa Aa Af Af ) ?_;rintro  v8 hq8;rw [eb] at hq8))<;>(try refine nX ?_)
        refine tx 9 rfl (BP (j:=k - 1) Ab hq8 SlIn.h hR Aa gB) ?_;rintro v9 ⟨cb,rfl,hcb⟩;refine td 10 rfl ?_;refine td 11 rfl ?_
        ((refine Bz 12 rfl kr rfl rfl (fun w hst=>Aq hst Ab SlIn.h rfl Aa Aa Af Af ) ?_;rintro  v12 hq12;simp only [Int.toNat_natCast] at hq12))<;>(try refine nX ?_)
        refine tx 13 rfl (BP (j:=k) Ab hq12 SlIn.h hR Aa gA) ?_;rintro v13 ⟨ca,rfl,hca⟩
        ((refine Bz 14 rfl kr rfl rfl (fun w hst=>Aq hst Ab SlIn.h rfl Aa Aa Af Af ) ?_;rintro  v14 hq14;simp only [Int.toNat_natCast] at hq14))<;>(try refine nX ?_)
        refine AR 15 rfl kr ?_;intro w hst K hK;refine BJ (u:=.agg cb.toArray) (cs:=cb) hst Ab hq14 SlIn.h Aa Ab rfl (Rep.len hcb) (List.all_eq_true.2 (Rep.one hcb)) (RL.at_len hR hjA) ?_;clear hst;intro w hst;(try refine nX ?_);(try replace hst:=nH hst);refine Bb hK hst ?_;clear hst hK K;(try clear w);(try refine nX ?_)
        ((refine Bz 16 rfl kr rfl rfl (fun w hst=>Aq hst Ab SlIn.h rfl Aa Aa Af Af ) ?_;rintro  v16 hq16;rw [eb] at hq16))<;>(try refine nX ?_)
        refine AR 17 rfl kr ?_;intro w hst K hK;refine BJ (u:=.agg ca.toArray) (cs:=ca) hst Ab hq16 SlIn.h Aa Ab rfl (Rep.len hca) (List.all_eq_true.2 (Rep.one hca)) (RL.at_len (RL.set hR hcb hjA) (by simpa using hjB)) ?_;clear hst;intro w hst;(try refine nX ?_);(try replace hst:=nH hst);refine Bb hK hst ?_;clear hst hK K;(try clear w);(try refine nX ?_);refine AK kr ?_;clear ops;intro w hst;have hq:=RL.set (RL.set hR hcb hjA) hca (show k - 1 < (ys.set k (ys.getD (k - 1) AD)).length by simpa using hjB);repeat' (first|(apply gK ();go_step)|fail)
        go_roundw
        case rel=>exact ⟨k - 1,_,_,by omega,O7 hki,hq,hnx,hst⟩
        case measure=>simp [intOf];omega
       ·have e:k=i:=by omega
        have hE:=Lib.hid (show Cp AD a b xs ys∧Bc BW AD ys a b by
         rw [e] at hro;have e2:b=m+1:=by omega
         rw [e2];exact ⟨(KK hro.out (by omega) (by omega)).wide (by omega) (Nat.le_refl _),UU Ej hs1 hro.out (by omega) (by omega) hse.out.1 hse.out.2⟩)
        apply gM ()
   ·skip
    have g0:((m:Int) - (a:Int) == 1)=false:=beq_eq_false_iff_ne.2 (by omega);have g1:((b:Int) - (m:Int) == 1)=false:=beq_eq_false_iff_ne.2 (by omega);obtain ⟨q,eq,hq⟩:∃ q:Nat,((a:Int)+(b:Int)) / 2=(q:Int)∧2 * q≤a+b∧a+b≤2 * q+1:=⟨(a+b) / 2,by omega,by omega,by omega⟩
    obtain ⟨n,en,hn⟩:∃ n:Nat,(q:Int)+(m:Int)=(n:Int)∧n≤q+m∧q+m≤n:=⟨q+m,by omega,by omega,by omega⟩
    obtain ⟨p,ep,hp⟩:∃ p:Nat,(n:Int) - 1=(p:Int)∧n≤p+1∧p+1≤n:=⟨n - 1,by omega,by omega,by omega⟩
    have key:∃ lo hi:Nat,(((n:Int) - (b:Int)=(lo:Int)∧hi=q∧m > q)∨(lo=a∧hi=m∧¬ m > q))∧(a≤lo∧lo≤hi∧hi≤m∧hi≤q∧n≤lo+b)∧(lo=a∨n=lo+b)∧(hi=m∨hi=q):=by
     by_cases k:m > q
     ·exact ⟨n - b,q,.inl ⟨by omega,rfl,k⟩,by omega,.inr (by omega),.inr rfl⟩
     ·exact ⟨a,m,.inr ⟨rfl,rfl,k⟩,by omega,.inl rfl,.inl rfl⟩
    obtain ⟨lo,hi,f1,f3,f4,f5⟩:=key;have F4:=Lib.hid f4;have F5:=Lib.hid f5;clear f4 f5;have h0:=Lib.hid (show Nx BW AD xs p lo hi lo hi from ⟨fun c k1 k2=>by omega,fun c k1 k2=>by omega⟩);rcases f1 with ⟨elo,ehi,hmq⟩|⟨elo,ehi,hmq⟩
    all_goals
     go_enter Tryz.func94,Tryz.ntmps94;repeat' (first|apply sK ()|(apply gK ();go_step)|fail)
     go_loopw [20,21,23] (fun v1 v2 _ wr=>∃ (s r:Nat),(lo≤s∧s≤r∧r≤hi)∧v1=.int .i64 s∧v2=.int .i64 r∧Hid (Nx BW AD xs p lo hi s r)∧St S (.sl sv 63 4 N c::M) wr) (fun v v2 _ _=>(intOf v2).toNat - (intOf v).toNat)
     case atStart=>exact ⟨lo,hi,by omega,by first|rfl|rw [elo],by first|rfl|rw [ehi],h0,hst⟩
     case round =>
      clear hst h0 eq en ep elo ehi hmq g0 g1;obtain ⟨s,r,hsr,rfl,rfl,hse,hst⟩:=hrel;by_cases hlt:s < r
      ·obtain ⟨h,eh,hh⟩:∃ h:Nat,((s:Int)+(r:Int)) / 2=(h:Int)∧s≤h∧h < r:=⟨(s+r) / 2,by omega,by omega,by omega⟩
       obtain ⟨u,eu,hu⟩:∃ u:Nat,((p:Int) - (h:Int)).toNat=u∧p≤u+h∧u+h≤p∧m≤u∧u < b:=⟨p - h,by omega,by omega,by omega,by omega,by omega⟩
       have hA0:u < xs.length:=by rw [HN.out];omega
       have hB0:h < xs.length:=by rw [HN.out];omega
       have gA:=getD_some (d:=AD) hA0;have gB:=getD_some (d:=AD) hB0;have HU:=Lib.hid (show p - h=u by omega);have cC:=fun {S':Ac} {M:List Chunk} (w:World) (hS:S.Le S') (hst:St S' M w) (c1 c2:List Value) (h1:Rep.R S c1 (xs.getD u AD)) (h2:Rep.R S c2 (xs.getD h AD))=>Mj w hst c1 _ (Rep.mono hS h1) c2 _ (Rep.mono hS h2)
       obtain ⟨y,gy⟩:∃ y,decide (BW (xs.getD u AD) (xs.getD h AD) < 0)=y:=⟨_,rfl⟩
       have gk:=(hS0.out.lt (show h < u by omega) hA0).trans gy
       cases y with
       | true =>
        have hnx:=Lib.hid (Ua Ej hs1 hs2 hse.out (c:=h) (by omega) (by omega) (by omega) (by omega) (by omega) (by rw [HU.out];exact of_decide_eq_true gy));repeat' ((apply iG ());first|(apply gK ();go_step)|fail)
        refine AF hst kr ?_;clear hst;intro ops;(try refine nX ?_);refine td 0 rfl ?_;refine td 1 rfl ?_;refine td 2 rfl ?_;refine td 3 rfl ?_;refine tq 4 rfl (by exact C3 rfl rfl Af) ?_
        ((refine Bz 5 rfl kr rfl rfl (fun w hst=>Aq hst Ab SlIn.h rfl Aa Aa Af Af ) ?_;rintro  v5 hp5;rw [eu] at hp5))<;>(try refine nX ?_)
        refine tx 6 rfl (BP (j:=u) Ab hp5 SlIn.h hR Aa gA) ?_;rintro v6 ⟨c6,rfl,hc6⟩;refine td 7 rfl ?_;refine td 8 rfl ?_
        ((refine Bz 9 rfl kr rfl rfl (fun w hst=>Aq hst Ab SlIn.h rfl Aa Aa Af Af ) ?_;rintro  v9 hp9;simp only [Int.toNat_natCast] at hp9))<;>(try refine nX ?_)
        refine tx 10 rfl (BP (j:=h) Ab hp9 SlIn.h hR Aa gB) ?_;rintro v10 ⟨c10,rfl,hc10⟩;(refine FF 11 rfl kr rfl (fun S' M' w hS hM hst=>cC w hS hst c6 c10 hc6 hc10) rfl Aa rfl rfl ?_)<;>(try refine nX ?_)
        refine tq 12 rfl (DG rfl rfl gk) ?_;refine td 13 rfl ?_;refine AK kr ?_;clear ops;intro w hst;repeat' (first|(apply gK ();go_step)|fail)
        go_roundw
        case rel=>exact ⟨s,h,by omega,rfl,rfl,hnx,hst⟩
        case measure=>simp [intOf];omega
       | false =>
        have hnx:=Lib.hid (Zh Ej hs1 hs2 hse.out (c:=h) (by omega) (by omega) (by omega) (by omega) (by omega) (by omega) (by rw [HU.out];exact of_decide_eq_false gy));repeat' ((apply iG ());first|(apply gK ();go_step)|fail)
        refine AF hst kr ?_;clear hst;intro ops;(try refine nX ?_);refine td 0 rfl ?_;refine td 1 rfl ?_;refine td 2 rfl ?_;refine td 3 rfl ?_;refine tq 4 rfl (by exact C3 rfl rfl Af) ?_
        ((refine Bz 5 rfl kr rfl rfl (fun w hst=>Aq hst Ab SlIn.h rfl Aa Aa Af Af ) ?_;rintro  v5 hp5;rw [eu] at hp5))<;>(try refine nX ?_)
        refine tx 6 rfl (BP (j:=u) Ab hp5 SlIn.h hR Aa gA) ?_;rintro v6 ⟨c6,rfl,hc6⟩;refine td 7 rfl ?_;refine td 8 rfl ?_
        ((refine Bz 9 rfl kr rfl rfl (fun w hst=>Aq hst Ab SlIn.h rfl Aa Aa Af Af ) ?_;rintro  v9 hp9;simp only [Int.toNat_natCast] at hp9))<;>(try refine nX ?_)
        refine tx 10 rfl (BP (j:=h) Ab hp9 SlIn.h hR Aa gB) ?_;rintro v10 ⟨c10,rfl,hc10⟩;(refine FF 11 rfl kr rfl (fun S' M' w hS hM hst=>cC w hS hst c6 c10 hc6 hc10) rfl Aa rfl rfl ?_)<;>(try refine nX ?_)
        refine tq 12 rfl (DG rfl rfl gk) ?_;refine td 13 rfl ?_;refine AK kr ?_;clear ops;intro w hst;repeat' (first|(apply gK ();go_step)|fail)
        go_roundw
        case rel=>exact ⟨h+1,r,by omega,by go_num,rfl,hnx,hst⟩
        case measure=>simp [intOf];omega
      ·obtain rfl:s=r:=by omega
       obtain ⟨e,ee,he⟩:∃ e:Nat,(n:Int) - (s:Int)=(e:Int)∧n≤e+s∧e+s≤n:=⟨n - s,by omega,by omega,by omega⟩
       have hse1:a≤s:=by omega
       have hse2:s≤m:=by omega
       have hse3:m≤e:=by omega
       have hse4:e≤b:=by omega
       have hqe:q≤e:=by omega
       have hqs:s≤q∧q < b∧a < q:=by omega
       have hA:s=a∨e=b∨le BW (xs.getD (s - 1) AD) (xs.getD e AD):=by
        by_cases k:lo < s
        ·have:=hse.out.1 (s - 1) (by omega) (by omega);rw [show p - (s - 1)=e by omega] at this;exact .inr (.inr this)
        ·rcases F4.out with k2|k2
         ·exact .inl (by omega)
         ·exact .inr (.inl (by omega))
       have hB:e=m∨s=m∨BW (xs.getD (e - 1) AD) (xs.getD s AD) < 0:=by
        by_cases k:s < hi
        ·have:=hse.out.2 s (Nat.le_refl _) k;rw [show p - s=e - 1 by omega] at this;exact .inr (.inr this)
        ·rcases F5.out with k2|k2
         ·exact .inr (.inl (by omega))
         ·exact .inl (by omega)
       have HQ:=Lib.hid (show q=s+(e - m) by omega);by_cases hrot:s < m∧m < e
       ·repeat' ((apply iF ());first|apply sG ()|(apply gK ();go_step)|(apply kc ();refine sc (WY _ sv N xs HN.out c hst hR s m e hrot.1 hrot.2 (by omega) hx) ?_;clear hst;rintro v w ⟨c2,zs,hR2,hro0,hst⟩)|fail)
        have hro:=Lib.hid hro0;clear hro0;have hzl:zs.length=N:=hro.out.1.length_eq.trans HN.out;obtain ⟨hz1,hz2,hz3,hz4,hx0⟩:=NJ Ej hs1 hs2 hro.out hse1 hse2 hse3 hse4 HQ.out hA hB;have hx1:=Lib.hid hx0
        have hZ:=Lib.hid (hS0.out.rot hro.out hse2 hse3 (show e≤xs.length by rw [HN.out];omega) (fun i j k1 k2 k3 k4=>by
         rcases hB with hB|hB|hB
         ·omega
         ·omega
         ·exact le_lt Ej (hs2.le' Ej k3 (show j≤e - 1 by omega) (by omega)) (Srt.lt_le Ej hB (hs1.le' Ej hse1 k1 k2))))
        have hup:=Lib.hid (show Cp AD a b xs zs from (KK hro.out hse2 hse3).wide hse1 hse4);clear hA hB hx0 hs1 hs2;by_cases hq1:a < s∧s < q
        ·have hle1:q - a≤L:=by omega
         repeat' ((apply YW ());first|apply sG ()|(apply gK ();go_step)|(apply kc ();refine sc (ih _ sv N zs hzl c2 hst hR2 a s q hq1.1 hq1.2 (by omega) hx hle1 hz1 hz2 hZ) ?_;clear hst;rintro v w ⟨c3,ys1,hR3,hu,hs,hst⟩)|fail)
         have hl1:ys1.length=N:=hu.len.trans hzl;replace hz3:=Jl hz3 hu (.inr (Nat.le_refl _));replace hz4:=Jl hz4 hu (.inr hqe);have hu3:=Lib.hid hu;have hs3:=Lib.hid hs;clear hu hs;apply eZ ()
        ·have hs30:Bc BW AD zs a q:=by
          apply gC ()
         repeat' ((apply YW ());first|go_skip|(with_reducible refine Sl.k_guard ?_;(refine Sl.guard_cases rfl ?_ ?_<;>intro hg<;>first|exact gX|(simp only [hg,Bool.not_true,Bool.not_false]))<;>(try replace hg:=gN hg)<;>(try refine nX ?_))|(apply gK ();go_step)|fail)
         all_goals first
          | (exfalso;omega)
          | skip
         all_goals
          obtain ⟨ys1,c3,hR3,⟨hu3,hs3,hl1,hz3,hz4⟩,hst⟩:=Np (P:=fun ys=>Hid (Cp AD a q zs ys)∧Hid (Bc BW AD ys a q)∧ys.length=N∧Bc BW AD ys q e∧Bc BW AD ys e b) hR2 ⟨Lib.hid (Cp.refl a q zs),Lib.hid hs30,hzl,hz3,hz4⟩ hst;apply eZ ()
       ·have hro:=Lib.hid (show Gd AD xs xs s m e from Ly xs (by omega) hse2 hse3);repeat' ((apply iF ());first|go_skip|apply sG ()|(with_reducible refine Sl.k_guard ?_;refine Sl.guard_cases rfl ?_ ?_<;>intro hg<;>(simp only [hg,Bool.not_true,Bool.not_false])<;>(try replace hg:=gN hg)<;>(try refine nX ?_))|(apply gK ();go_step)|fail)
        all_goals first
         | (exfalso;omega)
         | skip
        all_goals
         obtain ⟨zs,c2,hR2,hro,hst⟩:=Np (P:=fun zs=>Hid (Gd AD xs zs s m e)) hR hro hst;have hzl:zs.length=N:=hro.out.1.length_eq.trans HN.out;obtain ⟨hz1,hz2,hz3,hz4,hx0⟩:=NJ Ej hs1 hs2 hro.out hse1 hse2 hse3 hse4 HQ.out hA hB;have hx1:=Lib.hid hx0
         have hZ:=Lib.hid (hS0.out.rot hro.out hse2 hse3 (show e≤xs.length by rw [HN.out];omega) (fun i j k1 k2 k3 k4=>by
          rcases hB with hB|hB|hB
          ·omega
          ·omega
          ·exact le_lt Ej (hs2.le' Ej k3 (show j≤e - 1 by omega) (by omega)) (Srt.lt_le Ej hB (hs1.le' Ej hse1 k1 k2))))
         have hup:=Lib.hid (show Cp AD a b xs zs from (KK hro.out hse2 hse3).wide hse1 hse4);clear hA hB hx0 hs1 hs2;by_cases hq1:a < s∧s < q
         ·have hle1:q - a≤L:=by omega
          repeat' ((apply YW ());first|apply sG ()|(apply gK ();go_step)|(apply kc ();refine sc (ih _ sv N zs hzl c2 hst hR2 a s q hq1.1 hq1.2 (by omega) hx hle1 hz1 hz2 hZ) ?_;clear hst;rintro v w ⟨c3,ys1,hR3,hu,hs,hst⟩)|fail)
          have hl1:ys1.length=N:=hu.len.trans hzl;replace hz3:=Jl hz3 hu (.inr (Nat.le_refl _));replace hz4:=Jl hz4 hu (.inr hqe);have hu3:=Lib.hid hu;have hs3:=Lib.hid hs;clear hu hs;apply iE ()
         ·have hs30:Bc BW AD zs a q:=by
           apply gC ()
          repeat' ((apply YW ());first|apply sG ()|(with_reducible refine Sl.k_guard ?_;refine Sl.guard_cases rfl ?_ ?_<;>intro hg<;>first|exact gX|(simp only [hg,Bool.not_true,Bool.not_false])<;>(try replace hg:=gN hg)<;>(try refine nX ?_))|(apply gK ();go_step)|fail)
          all_goals first
           | (exfalso;omega)
           | skip
          all_goals
           obtain ⟨ys1,c3,hR3,⟨hu3,hs3,hl1,hz3,hz4⟩,hst⟩:=Np (P:=fun ys=>Hid (Cp AD a q zs ys)∧Hid (Bc BW AD ys a q)∧ys.length=N∧Bc BW AD ys q e∧Bc BW AD ys e b) hR2 ⟨Lib.hid (Cp.refl a q zs),Lib.hid hs30,hzl,hz3,hz4⟩ hst;apply iE ()
end Go.Proofs.YtmmbidoldegemaaGreatDoor
