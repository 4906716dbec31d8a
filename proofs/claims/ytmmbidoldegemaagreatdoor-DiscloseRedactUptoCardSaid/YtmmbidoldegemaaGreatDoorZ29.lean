/- Part 30 of a proof; no conditions. -/
import Derived.Test.YtmmbidoldegemaaGreatDoorZ28
set_option linter.all false
set_option maxRecDepth 8000
set_option maxHeartbeats 8000000
namespace Go.Proofs.YtmmbidoldegemaaGreatDoor
open Go.RowKit Go.Sl Go.Srt Go.Proofs.Tryz
theorem XZ {S M} (w sv Nqq xs) (hN:xs.length=Nqq) (c) (V:St S (.sl sv 63 4 Nqq c::M) w) (hR:RL S c xs) (hx:Nqq≤1000000) (HS:Hid (DH kP AI xs)):
  Ac prog 54 [sv,.int .i64 Nqq,ME] w fun _ w'=>∃ c' ys,RL S c' ys∧ys.Perm xs∧Bn Cb AI ys 0 Nqq∧St S (.sl sv 63 4 Nqq c'::M) w':=by
 unfold Ac;have hone:=Go.Sl.AY V;have HN:=Lib.hid hN;clear hN;go_enter func54,ntmps54;repeat' (first|(apply O ();go_step)|fail)
 go_loopw [7,8] (fun v7 v8 wr=>∃ (q a b:Nat) (c':List Value) (ys:List TP),(b≤a+20∧a+20≤b∧a≤Nqq)∧v7=.int .i64 a∧v8=.int .i64 b∧RL S c' ys∧Hid (a=q * 20∧CD AI 0 Nqq xs ys∧EQ Cb AI ys 20 0 a∧DH kP AI ys)∧St S (.sl sv 63 4 Nqq c'::M) wr) (fun _ v _=>Nqq+20 - (intOf v).toNat)
 case atStart=>exact ⟨0,0,20,c,xs,by omega,rfl,rfl,hR,Lib.hid ⟨by omega,CD.refl _ _ _,Q2 _ _,HS.out⟩,V⟩
 case round =>
  clear V hR;obtain ⟨q,a,b,c',ys,hi,rfl,rfl,hR,hU,V⟩:=hrel;have hyl:ys.length=Nqq:=hU.out.2.1.len.trans HN.out;by_cases hlt:b≤Nqq
  ·repeat' (first|(apply O ();go_step)|(apply kc ();refine sc (Qq _ sv Nqq ys hyl c' V hR a b hlt hx (by omega) (Lib.hid hU.out.2.2.2)) ?_;clear V;rintro v w ⟨c2,zs,hR2,hu,hs,V⟩)|fail)
   have hU2:=Lib.hid (show b=(q+1) * 20∧CD AI 0 Nqq xs zs∧EQ Cb AI zs 20 0 b∧DH kP AI zs from ⟨by have:=hU.out.1;omega,hU.out.2.1.trans (hu.wide (Nat.zero_le _) hlt),Kt hU.out.2.2.1 hU.out.1 (by omega) hu hs,hU.out.2.2.2.sort (by rw [hyl];exact hlt) hu hs⟩);clear hu hs;go_roundw
   case rel=>exact ⟨q+1,b,b+20,c2,zs,by omega,rfl,by congr 1<;>omega,hR2,hU2,V⟩
   case measure=>simp [intOf];omega
  ·repeat' (first|(apply O ();go_step)|(apply kc ();refine sc (Qq _ sv Nqq ys hyl c' V hR a Nqq (Nat.le_refl _) hx (by omega) (Lib.hid hU.out.2.2.2)) ?_;clear V;rintro v w ⟨c2,zs,hR2,hu,hs,V⟩)|fail)
   have hU2:=Lib.hid (show CD AI 0 Nqq xs zs∧EQ Cb AI zs 20 0 Nqq∧DH kP AI zs from ⟨hU.out.2.1.trans (hu.wide (Nat.zero_le _) (Nat.le_refl _)),Kt hU.out.2.2.1 hU.out.1 (by omega) hu hs,hU.out.2.2.2.sort (by rw [hyl];exact Nat.le_refl _) hu hs⟩);clear hu hs hU hyl hR hi hlt
   go_loopw [6,7,8,9] (fun v6 _ _ _ wr=>∃ (bs:Nat) (c':List Value) (ys:List TP),(0 < bs∧bs≤2000000)∧v6=.int .i64 bs∧RL S c' ys∧Hid (CD AI 0 Nqq xs ys∧EQ Cb AI ys bs 0 Nqq∧DH kP AI ys)∧St S (.sl sv 63 4 Nqq c'::M) wr) (fun v _ _ _ _=>Nqq - (intOf v).toNat)
   case atStart=>exact ⟨20,c2,zs,by omega,rfl,hR2,hU2,V⟩
   case round =>
    clear V hR2 hU2;obtain ⟨bs,c',ys,hbs,rfl,hR,hU,V⟩:=hrel;by_cases hlt:bs < Nqq
    ·obtain ⟨d,ed,ed2,hd⟩:∃ d:Nat,2 * (bs:Int)=(d:Int)∧(bs:Int) * 2=(d:Int)∧d≤2 * bs∧2 * bs≤d:=⟨2 * bs,by omega,by omega,by omega⟩
     have HD:=Lib.hid (show d=2 * bs by omega);repeat' (first|(apply O ();go_step)|fail)
     go_loopw [7,8] (fun v7 v8 wr=>∃ (q a b:Nat) (c':List Value) (ys:List TP),(b≤a+d∧a+d≤b∧a≤Nqq)∧v7=.int .i64 a∧v8=.int .i64 b∧RL S c' ys∧Hid (a=q * d∧CD AI 0 Nqq xs ys∧EQ Cb AI ys d 0 a∧EQ Cb AI ys bs a Nqq∧DH kP AI ys)∧St S (.sl sv 63 4 Nqq c'::M) wr) (fun _ v _=>Nqq+d - (intOf v).toNat)
     case atStart=>exact ⟨0,0,d,c',ys,by omega,rfl,by congr 1,hR,Lib.hid ⟨by omega,hU.out.1,Q2 _ _,hU.out.2.1,hU.out.2.2⟩,V⟩
     case round =>
      clear V hR hU;rename_i cu0 ys0;obtain ⟨q,a,b,c',ys,hi,rfl,rfl,hR,hU,V⟩:=hrel;have hyl:ys.length=Nqq:=hU.out.2.1.len.trans HN.out;obtain ⟨m,em,hm⟩:∃ m:Nat,(a:Int)+(bs:Int)=(m:Int)∧m≤a+bs∧a+bs≤m:=⟨a+bs,by omega,by omega⟩
      by_cases hlt2:b≤Nqq
      ·have hq1:Bn Cb AI ys a m∧Bn Cb AI ys m b:=by
        have e1:a=(2 * q) * bs:=by rw [hU.out.1,HD.out,← Nat.mul_assoc,Nat.mul_comm q 2]
        have e2:m=(2 * q+1) * bs:=by rw [Nat.succ_mul,← e1];omega
        constructor
        ·have:=HG (r:=2 * q) (b:=m) hU.out.2.2.2.1 hbs.1 (by omega) (by omega) (by omega);rwa [← e1] at this
        ·have:=HG (r:=2 * q+1) (b:=b) hU.out.2.2.2.1 hbs.1 (by omega) (by omega) hlt2;rwa [← e2] at this
       repeat' (first|(apply O ();go_step)|(apply kc ();refine sc (U7 Nqq _ sv Nqq ys hyl c' V hR a m b (by omega) (by omega) hlt2 hx (by omega) hq1.1 hq1.2 (Lib.hid hU.out.2.2.2.2)) ?_;clear V;rintro v w ⟨c2,zs,hR2,hu,hs,V⟩)|fail)
       have hU2:=Lib.hid (show b=(q+1) * d∧CD AI 0 Nqq xs zs∧EQ Cb AI zs d 0 b∧EQ Cb AI zs bs b Nqq∧DH kP AI zs from ⟨by rw [Nat.succ_mul,← hU.out.1];omega,hU.out.2.1.trans (hu.wide (Nat.zero_le _) hlt2),Kt hU.out.2.2.1 hU.out.1 (by omega) hu hs,ZR hU.out.2.2.2.1 hu (by omega),hU.out.2.2.2.2.sort (by rw [hyl];exact hlt2) hu hs⟩);clear hu hs hq1;go_roundw
       case rel=>exact ⟨q+1,b,b+d,c2,zs,by omega,rfl,by congr 1<;>omega,hR2,hU2,V⟩
       case measure=>simp [intOf];omega
      ·by_cases hmN:m < Nqq
       ·have hq1:Bn Cb AI ys a m∧Bn Cb AI ys m Nqq:=by
         have e1:a=(2 * q) * bs:=by rw [hU.out.1,HD.out,← Nat.mul_assoc,Nat.mul_comm q 2]
         have e2:m=(2 * q+1) * bs:=by rw [Nat.succ_mul,← e1];omega
         constructor
         ·have:=HG (r:=2 * q) (b:=m) hU.out.2.2.2.1 hbs.1 (by omega) (by omega) (by omega);rwa [← e1] at this
         ·have:=HG (r:=2 * q+1) (b:=Nqq) hU.out.2.2.2.1 hbs.1 (by omega) (by omega) (Nat.le_refl _);rwa [← e2] at this
        repeat' (first|(apply O ();go_step)|(apply kc ();refine sc (U7 Nqq _ sv Nqq ys hyl c' V hR a m Nqq (by omega) hmN (Nat.le_refl _) hx (by omega) hq1.1 hq1.2 (Lib.hid hU.out.2.2.2.2)) ?_;clear V;rintro v w ⟨c2,zs,hR2,hu,hs,V⟩)|fail)
        have hU2:=Lib.hid (show CD AI 0 Nqq xs zs∧EQ Cb AI zs d 0 Nqq∧DH kP AI zs from ⟨hU.out.2.1.trans (hu.wide (Nat.zero_le _) (Nat.le_refl _)),Kt hU.out.2.2.1 hU.out.1 (by omega) hu hs,hU.out.2.2.2.2.sort (by rw [hyl];exact Nat.le_refl _) hu hs⟩);clear hu hs hq1;go_roundw
        case rel=>exact ⟨d,c2,zs,by omega,rfl,hR2,hU2,V⟩
        case measure=>simp [intOf];omega
       ·have hU2:=Lib.hid (show CD AI 0 Nqq xs ys∧EQ Cb AI ys d 0 Nqq∧DH kP AI ys from ⟨hU.out.2.1,by rw [HD.out];exact W5 (q:=q) (by rw [← HD.out];exact hU.out.2.2.1) hU.out.2.2.2.1 hbs.1 (by rw [← HD.out];exact hU.out.1) (by omega),hU.out.2.2.2.2⟩);repeat' (first|(apply O ();go_step)|fail)
        go_roundw
        case rel=>exact ⟨d,c',ys,by omega,rfl,hR,hU2,V⟩
        case measure=>simp [intOf];omega
    ·repeat' (first|(apply O ();go_step)|fail)
     go_end0
     exact ⟨_,rfl,c',ys,hR,hU.out.1.perm,ZS hU.out.2.1 (by omega),V⟩
theorem eQ {S M} (w sv Nqq xs) (hN:xs.length=Nqq) (c) (V:St S (.sl sv 63 4 Nqq c::M) w) (hR:RL S c xs) (hx:Nqq≤1000000) (HS:Hid (DH kP AI xs)):
  Ac prog 27 [sv,ME] w fun _ w'=>∃ c' ys,RL S c' ys∧ys.Perm xs∧Bn Cb AI ys 0 Nqq∧St S (.sl sv 63 4 Nqq c'::M) w':=by
 unfold Ac;have HN:=Lib.hid hN;clear hN;go_enter func27,ntmps27;repeat' (first|(apply O ();go_step)|(apply kc ();refine sc (XZ _ sv Nqq xs HN.out c V hR hx HS) ?_;clear V;rintro v w ⟨c2,zs,hR2,hu,hs,V⟩)|apply sX ()|fail)
 go_end0
 exact ⟨_,rfl,c2,zs,hR2,hu,hs,V⟩
end Go.Proofs.YtmmbidoldegemaaGreatDoor
