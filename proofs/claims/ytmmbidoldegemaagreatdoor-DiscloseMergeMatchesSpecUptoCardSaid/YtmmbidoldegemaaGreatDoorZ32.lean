/- Part 33 of the proof that the law of the last part holds; no conditions. -/
import Derived.Test.YtmmbidoldegemaaGreatDoorZ31
set_option linter.unusedSimpArgs false
set_option linter.unusedVariables false
set_option maxRecDepth 8000
set_option maxHeartbeats 8000000
namespace Go.Proofs.YtmmbidoldegemaaGreatDoor
open Go.RowKit Go.Sl Go.Srt
theorem O7 {a j:Nat} (h:a < j):Value.int .i64 ((j:Int) - 1)=.int .i64 ((j - 1:Nat):Int):=by congr 1;omega
theorem Pp {S M} (w:World) (v:Value) (N:Nat) (xs:List TP) (hN:xs.length=N) (c:List Value) (hst:St S (.sl v 63 4 N c::M) w) (hR:RL S c xs) (a b:Nat) (hb:b≤N) (hx:N≤1000000) (ha:a≤1000000) (HS:Hid (Dl kP AD xs)) :
  Ad Tryz.prog 93 [v,.int .i64 a,.int .i64 b,LO] w fun _ w'=>∃ c' ys,RL S c' ys∧Cp AD a b xs ys∧Bc BW AD ys a b∧St S (.sl v 63 4 N c'::M) w':=by
 unfold Ad;have hone:=AW hst;have HN:=Lib.hid hN;clear hN;go_enter Tryz.func93,Tryz.ntmps93;repeat' (first|(apply gK ();go_step)|fail)
 go_loopw [8,9] (fun v8 _ wr=>∃ (i:Nat) (c':List Value) (ys:List TP),(a+1≤i∧(i≤b∨i≤a+1))∧v8=.int .i64 i∧RL S c' ys∧Hid (Cp AD a b xs ys∧Bc BW AD ys a i∧Dl kP AD ys)∧St S (.sl v 63 4 N c'::M) wr) (fun v _ _=>b - (intOf v).toNat)
 case atStart=>exact ⟨a+1,c,xs,by omega,by go_num,hR,Lib.hid ⟨Cp.refl _ _ _,WC (Nat.le_refl _),HS.out⟩,hst⟩
 case round =>
  clear hst hR;obtain ⟨i,c',ys,hi,rfl,hR,hU,hst⟩:=hrel;by_cases hlt:i < b
  ·repeat' (first|(apply gK ();go_step)|fail)
   go_loopw [9] (fun v9 wr=>∃ (j:Nat) (c':List Value) (ys:List TP),(a≤j∧j≤i)∧v9=.int .i64 j∧RL S c' ys∧Hid (Cp AD a b xs ys∧RQ BW AD ys a j (i+1)∧Dl kP AD ys)∧St S (.sl v 63 4 N c'::M) wr) (fun v _=>(intOf v).toNat)
   case atStart=>exact ⟨i,c',ys,by omega,rfl,hR,Lib.hid ⟨hU.out.1,Vc hU.out.2.1,hU.out.2.2⟩,hst⟩
   case round =>
    clear hst hR hU;rename_i c0 ys0;obtain ⟨j,c',ys,hj,rfl,hR,hU,hst⟩:=hrel;by_cases hja:a < j
    ·have hyl:ys.length=N:=hU.out.1.len.trans HN.out;have hj0:j < ys.length:=by omega
     have hj1:j - 1 < ys.length:=by omega
     have gA:=getD_some (d:=AD) hj0;have gB:=getD_some (d:=AD) hj1;have eb:((j:Int) - 1).toNat=j - 1:=by omega
     have g0:decide ((a:Int) < (j:Int))=true:=decide_eq_true (by omega);have cC:=fun {S':Ac} {M:List Chunk} (w:World) (hS:S.Le S') (hst:St S' M w) (c1 c2:List Value) (h1:Rep.R S c1 (ys.getD j AD)) (h2:Rep.R S c2 (ys.getD (j - 1) AD))=>Mj w hst c1 _ (Rep.mono hS h1) c2 _ (Rep.mono hS h2)
     obtain ⟨y,gy⟩:∃ y,decide (BW (ys.getD j AD) (ys.getD (j - 1) AD) < 0)=y:=⟨_,rfl⟩
     have gk:=(hU.out.2.2.lt (show j - 1 < j by omega) hj0).trans gy;have hyl:=Lib.hid hyl
     cases y with
     | true =>
      have hst1:=Lib.hid (XU Ej hU.out.2.1 hja (show j < i+1 by omega) (show i+1≤ys.length by rw [hyl.out];omega) (of_decide_eq_true gy));have hsb:=Lib.hid (hU.out.2.2.swap' (show j - 1+1=j by omega) hj0 (of_decide_eq_true gy));have hup:=Lib.hid (hU.out.1.trans (Ws hj0 hj1 (a:=a) (b:=b) (by omega) (by omega)));repeat' ((apply Z4 ());first|(apply gK ();go_step)|fail)
      refine AF hst kr ?_;clear hst;intro ops;(try refine nX ?_);refine td 0 rfl ?_;refine td 1 rfl ?_;refine tq 2 rfl (FD rfl rfl g0) ?_;refine td 3 rfl ?_;refine td 4 rfl ?_;refine td 5 rfl ?_;refine td 6 rfl ?_
      (((refine Bz 7 rfl kr rfl rfl (fun w hst=>Aq hst Ab SlIn.h rfl Aa Aa Af Af ) ?_;rintro  v7 hp7;simp only [Int.toNat_natCast] at hp7)))<;>(try refine nX ?_)
      refine tx 8 rfl (BP (j:=j) Ab hp7 SlIn.h hR Aa gA) ?_;rintro v8 ⟨c8,rfl,hc8⟩;refine td 9 rfl ?_;refine td 10 rfl ?_;refine tq 11 rfl (by exact C3 rfl rfl Af) ?_
      (((refine Bz 12 rfl kr rfl rfl (fun w hst=>Aq hst Ab SlIn.h rfl Aa Aa Af Af ) ?_;rintro  v12 hp12;rw [eb] at hp12)))<;>(try refine nX ?_)
      refine tx 13 rfl (BP (j:=j - 1) Ab hp12 SlIn.h hR Aa gB) ?_;rintro v13 ⟨c13,rfl,hc13⟩;(refine FF 14 rfl kr rfl (fun S' M' w hS hM hst=>cC w hS hst c8 c13 hc8 hc13) rfl Aa rfl rfl ?_)<;>(try refine nX ?_)
      refine tq 15 rfl (DG rfl rfl gk) ?_;refine td 16 rfl ?_;refine AK kr ?_;clear ops;intro w hst;repeat' (first|(apply gK ();go_step)|fail)
      refine AF hst kr ?_;clear hst;intro ops;(try refine nX ?_);refine td 0 rfl ?_;refine td 1 rfl ?_;(refine Ee 2 rfl kr rfl rfl (fun _ _=>by exact C4 Ab) ?_)<;>(try refine nX ?_)
      (refine Ee 3 rfl kr rfl rfl (fun _ _=>by exact C4 Ab) ?_)<;>(try refine nX ?_)
      (refine Ee 4 rfl kr rfl rfl (fun _ _=>by exact C3 rfl rfl Af) ?_)<;>(try refine nX ?_)
      refine td 5 rfl ?_;refine td 6 rfl ?_;refine tq 7 rfl (by exact C3 rfl rfl Af) ?_
      ((refine Bz 8 rfl kr rfl rfl (fun w hst=>Aq hst Ab SlIn.h rfl Aa Aa Af Af ) ?_;rintro  v8 hq8;rw [eb] at hq8))<;>(try refine nX ?_)
      refine tx 9 rfl (BP (j:=j - 1) Ab hq8 SlIn.h hR Aa gB) ?_;rintro v9 ⟨cb,rfl,hcb⟩;refine td 10 rfl ?_;refine td 11 rfl ?_
      ((refine Bz 12 rfl kr rfl rfl (fun w hst=>Aq hst Ab SlIn.h rfl Aa Aa Af Af ) ?_;rintro  v12 hq12;simp only [Int.toNat_natCast] at hq12))<;>(try refine nX ?_)
      refine tx 13 rfl (BP (j:=j) Ab hq12 SlIn.h hR Aa gA) ?_;rintro v13 ⟨ca,rfl,hca⟩
      ((refine Bz 14 rfl kr rfl rfl (fun w hst=>Aq hst Ab SlIn.h rfl Aa Aa Af Af ) ?_;rintro  v14 hq14;simp only [Int.toNat_natCast] at hq14))<;>(try refine nX ?_)
      refine AR 15 rfl kr ?_;intro w hst K hK;refine BJ (u:=.agg cb.toArray) (cs:=cb) hst Ab hq14 SlIn.h Aa Ab rfl (Rep.len hcb) (List.all_eq_true.2 (Rep.one hcb)) (RL.at_len hR hj0) ?_;clear hst;intro w hst;(try refine nX ?_);(try replace hst:=nH hst);refine Bb hK hst ?_;clear hst hK K;(try clear w);(try refine nX ?_)
      ((refine Bz 16 rfl kr rfl rfl (fun w hst=>Aq hst Ab SlIn.h rfl Aa Aa Af Af ) ?_;rintro  v16 hq16;rw [eb] at hq16))<;>(try refine nX ?_)
      refine AR 17 rfl kr ?_;intro w hst K hK;refine BJ (u:=.agg ca.toArray) (cs:=ca) hst Ab hq16 SlIn.h Aa Ab rfl (Rep.len hca) (List.all_eq_true.2 (Rep.one hca)) (RL.at_len (RL.set hR hcb hj0) (by simpa using hj1)) ?_;clear hst;intro w hst;(try refine nX ?_);(try replace hst:=nH hst);refine Bb hK hst ?_;clear hst hK K;(try clear w);(try refine nX ?_);refine AK kr ?_;clear ops;intro w hst;have hq:=RL.set (RL.set hR hcb hj0) hca (show j - 1 < (ys.set j (ys.getD (j - 1) AD)).length by simpa using hj1);repeat' (first|(apply gK ();go_step)|fail)
      go_roundw
      case rel=>exact ⟨j - 1,_,_,by omega,O7 hja,hq,Lib.hid ⟨hup.out,hst1.out,hsb.out⟩,hst⟩
      case measure=>simp [intOf];omega
     | false =>
      have hso:=Lib.hid (ak Ej hU.out.2.1 hja (of_decide_eq_false gy));repeat' ((apply Z4 ());first|(apply gK ();go_step)|fail)
      refine AF hst kr ?_;clear hst;intro ops;(try refine nX ?_);refine td 0 rfl ?_;refine td 1 rfl ?_;refine tq 2 rfl (FD rfl rfl g0) ?_;refine td 3 rfl ?_;refine td 4 rfl ?_;refine td 5 rfl ?_;refine td 6 rfl ?_
      (((refine Bz 7 rfl kr rfl rfl (fun w hst=>Aq hst Ab SlIn.h rfl Aa Aa Af Af ) ?_;rintro  v7 hp7;simp only [Int.toNat_natCast] at hp7)))<;>(try refine nX ?_)
      refine tx 8 rfl (BP (j:=j) Ab hp7 SlIn.h hR Aa gA) ?_;rintro v8 ⟨c8,rfl,hc8⟩;refine td 9 rfl ?_;refine td 10 rfl ?_;refine tq 11 rfl (by exact C3 rfl rfl Af) ?_
      (((refine Bz 12 rfl kr rfl rfl (fun w hst=>Aq hst Ab SlIn.h rfl Aa Aa Af Af ) ?_;rintro  v12 hp12;rw [eb] at hp12)))<;>(try refine nX ?_)
      refine tx 13 rfl (BP (j:=j - 1) Ab hp12 SlIn.h hR Aa gB) ?_;rintro v13 ⟨c13,rfl,hc13⟩;(refine FF 14 rfl kr rfl (fun S' M' w hS hM hst=>cC w hS hst c8 c13 hc8 hc13) rfl Aa rfl rfl ?_)<;>(try refine nX ?_)
      refine tq 15 rfl (DG rfl rfl gk) ?_;apply g5 ()
    ·obtain rfl:j=a:=by omega
     have g0:decide ((j:Int) < (j:Int))=false:=decide_eq_false (by omega);have hso:=Lib.hid (Vb hU.out.2.1);repeat' ((apply Z4 ());first|(apply gK ();go_step)|fail)
     refine AF hst kr ?_;clear hst;intro ops;(try refine nX ?_);refine td 0 rfl ?_;refine td 1 rfl ?_;refine tq 2 rfl (FD rfl rfl g0) ?_;refine td 3 rfl ?_;refine tz 4 rfl ?_;refine tz 5 rfl ?_;refine tz 6 rfl ?_;refine tz 7 rfl ?_;refine tz 8 rfl ?_;refine tz 9 rfl ?_;refine tz 10 rfl ?_;refine tz 11 rfl ?_;refine tz 12 rfl ?_;refine tz 13 rfl ?_;refine tz 14 rfl ?_;refine tz 15 rfl ?_;apply g5 ()
  ·repeat' (first|(apply gK ();go_step)|fail)
   go_end0
   exact ⟨_,rfl,c',ys,hR,hU.out.1,WB hU.out.2.1 (Nat.le_refl _) (by omega),hst⟩
end Go.Proofs.YtmmbidoldegemaaGreatDoor
