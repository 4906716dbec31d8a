/- Part 35 of the proof that the law of the last part holds; no conditions. -/
import Derived.Test.YtmmbidoldegemaaGreatDoorZ33
set_option linter.unusedSimpArgs false
set_option linter.unusedVariables false
set_option maxRecDepth 8000
set_option maxHeartbeats 8000000
namespace Go.Proofs.YtmmbidoldegemaaGreatDoor
open Go.RowKit Go.Sl Go.Srt
theorem WA {S M} (w:World) (sv:Value) (N:Nat) (xs:List TP) (hN:xs.length=N) (c:List Value) (hst:St S (.sl sv 63 4 N c::M) w) (hR:RL S c xs) (hx:N≤1000000) (HS:Hid (Dl kP AD xs)) :
  Ad Tryz.prog 54 [sv,.int .i64 N,LO] w fun _ w'=>∃ c' ys,RL S c' ys∧ys.Perm xs∧Bc BW AD ys 0 N∧St S (.sl sv 63 4 N c'::M) w':=by
 unfold Ad;have hone:=AW hst;have HN:=Lib.hid hN;clear hN;go_enter Tryz.func54,Tryz.ntmps54;repeat' (first|(apply gK ();go_step)|fail)
 go_loopw [7,8] (fun v7 v8 wr=>∃ (q a b:Nat) (c':List Value) (ys:List TP),(b≤a+20∧a+20≤b∧a≤N)∧v7=.int .i64 a∧v8=.int .i64 b∧RL S c' ys∧Hid (a=q * 20∧Cp AD 0 N xs ys∧Es BW AD ys 20 0 a∧Dl kP AD ys)∧St S (.sl sv 63 4 N c'::M) wr) (fun _ v _=>N+20 - (intOf v).toNat)
 case atStart=>exact ⟨0,0,20,c,xs,by omega,rfl,rfl,hR,Lib.hid ⟨by omega,Cp.refl _ _ _,PU _ _,HS.out⟩,hst⟩
 case round =>
  clear hst hR;obtain ⟨q,a,b,c',ys,hi,rfl,rfl,hR,hU,hst⟩:=hrel;have hyl:ys.length=N:=hU.out.2.1.len.trans HN.out;by_cases hlt:b≤N
  ·repeat' (first|(apply gK ();go_step)|(apply kc ();refine sc (Pp _ sv N ys hyl c' hst hR a b hlt hx (by omega) (Lib.hid hU.out.2.2.2)) ?_;clear hst;rintro v w ⟨c2,zs,hR2,hu,hs,hst⟩)|fail)
   have hU2:=Lib.hid (show b=(q+1) * 20∧Cp AD 0 N xs zs∧Es BW AD zs 20 0 b∧Dl kP AD zs from ⟨by have:=hU.out.1;omega,hU.out.2.1.trans (hu.wide (Nat.zero_le _) hlt),JJ hU.out.2.2.1 hU.out.1 (by omega) hu hs,hU.out.2.2.2.sort (by rw [hyl];exact hlt) hu hs⟩);clear hu hs;go_roundw
   case rel=>exact ⟨q+1,b,b+20,c2,zs,by omega,rfl,by congr 1<;>omega,hR2,hU2,hst⟩
   case measure=>simp [intOf];omega
  ·repeat' (first|(apply gK ();go_step)|(apply kc ();refine sc (Pp _ sv N ys hyl c' hst hR a N (Nat.le_refl _) hx (by omega) (Lib.hid hU.out.2.2.2)) ?_;clear hst;rintro v w ⟨c2,zs,hR2,hu,hs,hst⟩)|fail)
   have hU2:=Lib.hid (show Cp AD 0 N xs zs∧Es BW AD zs 20 0 N∧Dl kP AD zs from ⟨hU.out.2.1.trans (hu.wide (Nat.zero_le _) (Nat.le_refl _)),JJ hU.out.2.2.1 hU.out.1 (by omega) hu hs,hU.out.2.2.2.sort (by rw [hyl];exact Nat.le_refl _) hu hs⟩);clear hu hs hU hyl hR hi hlt
   go_loopw [6,7,8,9] (fun v6 _ _ _ wr=>∃ (bs:Nat) (c':List Value) (ys:List TP),(0 < bs∧bs≤2000000)∧v6=.int .i64 bs∧RL S c' ys∧Hid (Cp AD 0 N xs ys∧Es BW AD ys bs 0 N∧Dl kP AD ys)∧St S (.sl sv 63 4 N c'::M) wr) (fun v _ _ _ _=>N - (intOf v).toNat)
   case atStart=>exact ⟨20,c2,zs,by omega,rfl,hR2,hU2,hst⟩
   case round =>
    clear hst hR2 hU2;obtain ⟨bs,c',ys,hbs,rfl,hR,hU,hst⟩:=hrel;by_cases hlt:bs < N
    ·obtain ⟨d,ed,ed2,hd⟩:∃ d:Nat,2 * (bs:Int)=(d:Int)∧(bs:Int) * 2=(d:Int)∧d≤2 * bs∧2 * bs≤d:=⟨2 * bs,by omega,by omega,by omega⟩
     have HD:=Lib.hid (show d=2 * bs by omega);repeat' (first|(apply gK ();go_step)|fail)
     go_loopw [7,8] (fun v7 v8 wr=>∃ (q a b:Nat) (c':List Value) (ys:List TP),(b≤a+d∧a+d≤b∧a≤N)∧v7=.int .i64 a∧v8=.int .i64 b∧RL S c' ys∧Hid (a=q * d∧Cp AD 0 N xs ys∧Es BW AD ys d 0 a∧Es BW AD ys bs a N∧Dl kP AD ys)∧St S (.sl sv 63 4 N c'::M) wr) (fun _ v _=>N+d - (intOf v).toNat)
     case atStart=>exact ⟨0,0,d,c',ys,by omega,rfl,by congr 1,hR,Lib.hid ⟨by omega,hU.out.1,PU _ _,hU.out.2.1,hU.out.2.2⟩,hst⟩
     case round =>
      clear hst hR hU;rename_i cu0 ys0;obtain ⟨q,a,b,c',ys,hi,rfl,rfl,hR,hU,hst⟩:=hrel;have hyl:ys.length=N:=hU.out.2.1.len.trans HN.out;obtain ⟨m,em,hm⟩:∃ m:Nat,(a:Int)+(bs:Int)=(m:Int)∧m≤a+bs∧a+bs≤m:=⟨a+bs,by omega,by omega⟩
      by_cases hlt2:b≤N
      ·have hq1:Bc BW AD ys a m∧Bc BW AD ys m b:=by
        have e1:a=(2 * q) * bs:=by rw [hU.out.1,HD.out,← Nat.mul_assoc,Nat.mul_comm q 2]
        have e2:m=(2 * q+1) * bs:=by rw [Nat.succ_mul,← e1];omega
        constructor
        ·have:=GU (r:=2 * q) (b:=m) hU.out.2.2.2.1 hbs.1 (by omega) (by omega) (by omega);rwa [← e1] at this
        ·have:=GU (r:=2 * q+1) (b:=b) hU.out.2.2.2.1 hbs.1 (by omega) (by omega) hlt2;rwa [← e2] at this
       repeat' (first|(apply gK ();go_step)|(apply kc ();refine sc (TU N _ sv N ys hyl c' hst hR a m b (by omega) (by omega) hlt2 hx (by omega) hq1.1 hq1.2 (Lib.hid hU.out.2.2.2.2)) ?_;clear hst;rintro v w ⟨c2,zs,hR2,hu,hs,hst⟩)|fail)
       have hU2:=Lib.hid (show b=(q+1) * d∧Cp AD 0 N xs zs∧Es BW AD zs d 0 b∧Es BW AD zs bs b N∧Dl kP AD zs from ⟨by rw [Nat.succ_mul,← hU.out.1];omega,hU.out.2.1.trans (hu.wide (Nat.zero_le _) hlt2),JJ hU.out.2.2.1 hU.out.1 (by omega) hu hs,Yw hU.out.2.2.2.1 hu (by omega),hU.out.2.2.2.2.sort (by rw [hyl];exact hlt2) hu hs⟩);clear hu hs hq1;go_roundw
       case rel=>exact ⟨q+1,b,b+d,c2,zs,by omega,rfl,by congr 1<;>omega,hR2,hU2,hst⟩
       case measure=>simp [intOf];omega
      ·by_cases hmN:m < N
       ·have hq1:Bc BW AD ys a m∧Bc BW AD ys m N:=by
         have e1:a=(2 * q) * bs:=by rw [hU.out.1,HD.out,← Nat.mul_assoc,Nat.mul_comm q 2]
         have e2:m=(2 * q+1) * bs:=by rw [Nat.succ_mul,← e1];omega
         constructor
         ·have:=GU (r:=2 * q) (b:=m) hU.out.2.2.2.1 hbs.1 (by omega) (by omega) (by omega);rwa [← e1] at this
         ·have:=GU (r:=2 * q+1) (b:=N) hU.out.2.2.2.1 hbs.1 (by omega) (by omega) (Nat.le_refl _);rwa [← e2] at this
        repeat' (first|(apply gK ();go_step)|(apply kc ();refine sc (TU N _ sv N ys hyl c' hst hR a m N (by omega) hmN (Nat.le_refl _) hx (by omega) hq1.1 hq1.2 (Lib.hid hU.out.2.2.2.2)) ?_;clear hst;rintro v w ⟨c2,zs,hR2,hu,hs,hst⟩)|fail)
        have hU2:=Lib.hid (show Cp AD 0 N xs zs∧Es BW AD zs d 0 N∧Dl kP AD zs from ⟨hU.out.2.1.trans (hu.wide (Nat.zero_le _) (Nat.le_refl _)),JJ hU.out.2.2.1 hU.out.1 (by omega) hu hs,hU.out.2.2.2.2.sort (by rw [hyl];exact Nat.le_refl _) hu hs⟩);clear hu hs hq1;go_roundw
        case rel=>exact ⟨d,c2,zs,by omega,rfl,hR2,hU2,hst⟩
        case measure=>simp [intOf];omega
       ·have hU2:=Lib.hid (show Cp AD 0 N xs ys∧Es BW AD ys d 0 N∧Dl kP AD ys from ⟨hU.out.2.1,by rw [HD.out];exact VU (q:=q) (by rw [← HD.out];exact hU.out.2.2.1) hU.out.2.2.2.1 hbs.1 (by rw [← HD.out];exact hU.out.1) (by omega),hU.out.2.2.2.2⟩);repeat' (first|(apply gK ();go_step)|fail)
        go_roundw
        case rel=>exact ⟨d,c',ys,by omega,rfl,hR,hU2,hst⟩
        case measure=>simp [intOf];omega
    ·repeat' (first|(apply gK ();go_step)|fail)
     go_end0
     exact ⟨_,rfl,c',ys,hR,hU.out.1.perm,Yx hU.out.2.1 (by omega),hst⟩
theorem bQ {S M} (w:World) (sv:Value) (N:Nat) (xs:List TP) (hN:xs.length=N) (c:List Value) (hst:St S (.sl sv 63 4 N c::M) w) (hR:RL S c xs) (hx:N≤1000000) (HS:Hid (Dl kP AD xs)) :
  Ad Tryz.prog 27 [sv,LO] w fun _ w'=>∃ c' ys,RL S c' ys∧ys.Perm xs∧Bc BW AD ys 0 N∧St S (.sl sv 63 4 N c'::M) w':=by
 unfold Ad;have HN:=Lib.hid hN;clear hN;go_enter Tryz.func27,Tryz.ntmps27;repeat' (first|(apply gK ();go_step)|(apply kc ();refine sc (WA _ sv N xs HN.out c hst hR hx HS) ?_;clear hst;rintro v w ⟨c2,zs,hR2,hu,hs,hst⟩)|apply sX ()|fail)
 go_end0
 exact ⟨_,rfl,c2,zs,hR2,hu,hs,hst⟩
end Go.Proofs.YtmmbidoldegemaaGreatDoor
