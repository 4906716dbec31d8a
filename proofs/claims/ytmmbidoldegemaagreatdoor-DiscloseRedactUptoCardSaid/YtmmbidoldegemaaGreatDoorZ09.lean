/- Part 10 of a proof; no conditions. -/
import Derived.Test.YtmmbidoldegemaaGreatDoorZ08
set_option linter.all false
set_option maxRecDepth 8000
set_option maxHeartbeats 8000000
namespace Go.Proofs.YtmmbidoldegemaaGreatDoor
open Go.RowKit Go.Sl Go.Proofs.Tryz
theorem XI {S M} (w) (V:St S M w) (s) (hB:s.length≤1048576):
  Ac prog 57 [.string ⟨s.toArray⟩] w fun v w'=>∃ S' so,S.Le S'∧v=.tuple #[Ar so,.int .i64 (CF s).2]∧RSl S' (Ar so) (CF s).1∧St S' M w':=by
 unfold Ac;by_cases h15:s.length > 1500
 ·have HR:Hid (CF s=([],2)):=Lib.hid (if_pos h15);go_enter func57,ntmps57;repeat' (first|(apply O ();go_step)|(apply kc ();refine Ag V (by exact AW X Y) ?_<;>apply nW ())|fail)
  refine Bc rfl (A8 rfl) (A8 rfl) ?_;(try simp only [AV,List.drop_zero,List.drop_succ_cons,List.take_succ_cons,List.take_zero,AB,Ap]);refine ⟨_,rfl,S,(none,0,0),.refl _,by rw [HR.out],by rw [HR.out];exact ID,V⟩
 ·have HR0:CF s=CW s (s.length+1) 0 []:=if_neg h15;obtain ⟨R,hR⟩:∃ R,CF s=R:=⟨_,rfl⟩
  rw [hR] at HR0 ⊢;have HR:=Lib.hid HR0.symm;clear hR HR0;go_enter func57,ntmps57;replace V:=V.nil 175 4;repeat' (first|(apply O ();go_step)|(apply kc ();refine Ag V (by exact AW X Y) ?_<;>apply nW ())|fail)
  go_loopw [4,5] (fun u4 u5 wr=>∃ (f i:Nat) (out:List Tk) (so:Sv) (co:List Value),u4=Ar so∧u5=.int .i64 (i:Int)∧Hid (CW s f i out=R)∧(i≤s.length∧s.length+1≤f+i)∧out.length≤i∧RL S co out∧St S (.sl (Ar so) 175 4 out.length co::M) wr) (fun _ v _=>s.length - (intOf v).toNat)
  case atStart=>exact ⟨s.length+1,0,[],(none,0,0),[],rfl,rfl,HR,⟨Nat.zero_le _,by omega⟩,Nat.zero_le _,RL.nil,V⟩
  case round =>
   clear V HR;obtain ⟨f,i,out,so,co,rfl,rfl,HR,hf,ho,hR,V⟩:=hrel;have hone:=Go.Sl.AY V;by_cases hlt:i < s.length
   ·obtain ⟨f,rfl⟩:∃ g,f=g+1:=⟨f - 1,by omega⟩
    have cC:=fun {M} w (V:St S M w)=>Jp w V s[i]
    have hcl:=Jo s[i];by_cases h4:AX s[i]=4
    ·have HN:=Lib.hid ((UZ (f:=f) (out:=out) hlt h4).symm.trans HR.out);rw [h4] at cC;clear h4 HR;repeat' (first|(apply tX ();refine Ag V (by exact Cd X X StrT.u Af Af) ?_<;>apply nW ())|(apply O ();go_step)|(apply kc ();refine sc (cC _ V) ?_;clear V;rintro v w ⟨rfl,V⟩)|(apply kc ();refine Ag V (by exact AW X Y) ?_<;>apply nW ())|fail)
     go_roundw
     case rel=>exact ⟨f,i+1,out,so,co,rfl,by go_num,HN,by omega,by omega,hR,V⟩
     case measure=>simp [intOf];omega
    ·by_cases h3:AX s[i]=3
     ·have HN:=Lib.hid (HR.out.symm.trans (U0 hlt h3));rw [h3] at cC;clear h4 h3 HR;repeat' (first|(apply tX ();refine Ag V (by exact Cd X X StrT.u Af Af) ?_<;>apply nW ())|(apply O ();go_step)|(apply kc ();refine sc (cC _ V) ?_;clear V;rintro v w ⟨rfl,V⟩)|(apply kc ();refine Ag V (by exact AW X Y) ?_<;>apply nW ())|fail)
      apply jT ()
     ·by_cases h0:AX s[i]=0
      ·have cS:=fun {M} w (V:St S M w)=>X8 w V s i hlt hB
       have hs:=PI s hlt;rw [h0] at cC;by_cases hn:Ey s i=0
       ·have HN:=Lib.hid (HR.out.symm.trans (U2 hlt h0 hn));rw [hn] at cS;clear h4 h3 h0 HR hs hn;repeat' (first|(apply tX ();refine Ag V (by exact Cd X X StrT.u Af Af) ?_<;>apply nW ())|(apply O ();go_step)|(apply kc ();refine sc (cC _ V) ?_;clear V;rintro v w ⟨rfl,V⟩)|(apply kc ();refine sc (cS _ V) ?_;clear V;rintro v w ⟨rfl,V⟩)|(apply kc ();refine Ag V (by exact AW X Y) ?_<;>apply nW ())|fail)
        apply jT ()
       ·have HN:=Lib.hid ((U1 (f:=f) (out:=out) hlt h0 hn).symm.trans HR.out);generalize Ey s i=n at *;clear h4 h3 h0 HR;repeat' ((apply ZZ 15);first|(apply tX ();refine Ag V (by exact Cd X X StrT.u Af Af) ?_<;>apply nW ())|(apply O ();go_step)|(apply kc ();refine sc (cC _ V) ?_;clear V;rintro v w ⟨rfl,V⟩)|(apply kc ();refine sc (cS _ V) ?_;clear V;rintro v w ⟨rfl,V⟩)|(apply kc ();refine Ag V (by exact AW X Y) ?_<;>apply nW ())|fail)
        repeat' (first|(apply O ();go_step)|fail)
        refine Ag V (bN (i:=i) (n:=n) rfl rfl rfl Y (by omega)) ?_;apply nW ();repeat' (first|(apply O ();go_step)|fail)
        refine Ay (vs:=[(.agg #[.int .i64 3,.string ⟨((s.drop i).take n).toArray⟩,.int .i64 0,.int .i64 (i:Int)])]) V Y Y rfl rfl (by simp [Value.cells]) rfl (by omega) (by omega) ?_;clear V;intro u w V;simp only [List.set_cons_succ,List.set_cons_zero,AB,Ap,List.drop_succ_cons,List.drop_zero,List.take_succ_cons,List.take_zero,Bq,Int.toNat_zero,Int.reduceToNat,Nat.mul_one,Nat.zero_add,Nat.add_zero,Nat.reduceMul,Nat.reduceAdd,Nat.zero_mul,Int.reduceSub,Int.reduceAdd,Int.reduceMul,Int.reduceNeg,Bool.not_true,Bool.not_false];refine AF (j:=0) V X X SlIn.h rfl Y Y Y (by simp [Value.cells,Value.oneCell']) (by omega) (by omega) (by decide) ?_;clear V;intro v' w V;simp only [List.set_cons_succ,List.set_cons_zero,AB,Ap,List.drop_succ_cons,List.drop_zero,List.take_succ_cons,List.take_zero,Bq,Int.toNat_zero,Int.reduceToNat,Nat.mul_one,Nat.zero_add,Nat.add_zero,Nat.reduceMul,Nat.reduceAdd,Nat.zero_mul,Int.reduceSub,Int.reduceAdd,Int.reduceMul,Int.reduceNeg,Bool.not_true,Bool.not_false];(try replace V:=nH V);replace V:=V.drop;obtain ⟨ay,cy,rfl⟩:=Go.Sl.sl_formk (k:=0) V rfl;apply nW ();repeat' (first|(apply O ();go_step)|fail)
        go_roundw
        case rel=>exact ⟨f,i+n,_,(ay,out.length+1,cy),_,rfl,by go_num,HN,by omega,by simp only [List.length_append,List.length_cons,List.length_nil];omega,hR.append (RL.one_mk (Yz (s:=⟨(s.drop i).take n⟩) (Ah (by decide)) (by unfold maxLen;simp only [List.length_take,List.length_drop];omega) (Ah (by decide)) (Ah ⟨by omega,by omega⟩))),by simpa using V⟩
        case measure=>simp [intOf];omega
      ·rcases (show AX s[i]=1∨AX s[i]=2 by omega) with h1|h2
       ·have hk:=Lib.hid h1;rw [h1] at cC;clear h4 h3 h0;have hk0:Hid (B8 s 1 s.length (i+1)=B8 s 1 s.length (i+1)):=Lib.hid rfl;obtain ⟨E,hE⟩:∃ E,B8 s 1 s.length (i+1)=E:=⟨_,rfl⟩
        have hE:=Lib.hid hE;have hEb:=LM s 1 s.length (i+1) (by omega);rw [hE.out] at hEb;clear h1 hk0;repeat' ((apply ZZ 18);first|(apply tX ();refine Ag V (by exact Cd X X StrT.u Af Af) ?_<;>apply nW ())|(apply O ();go_step)|(apply kc ();refine sc (cC _ V) ?_;clear V;rintro v w ⟨rfl,V⟩)|(apply kc ();refine Ag V (by exact AW X Y) ?_<;>apply nW ())|fail)
        go_loopw [8,9] (fun u8 _ wr=>∃ (f' n:Nat),u8=.int .i64 (n:Int)∧Hid (B8 s 1 f' n=E)∧(i+1≤n∧n≤s.length∧s.length≤f'+n)∧St S (.sl (Ar so) 175 4 out.length co::M) wr) (fun v _ _=>s.length - (intOf v).toNat)
        case atStart=>exact ⟨s.length,i+1,by go_num,hE,by omega,V⟩
        case round =>
         clear V;obtain ⟨f',n,rfl,hn9,hb,V⟩:=hrel;by_cases hn:n < s.length
         ·obtain ⟨f',rfl⟩:∃ g,f'=g+1:=⟨f' - 1,by omega⟩
          have cX:=fun {M} w (V:St S M w)=>Jp w V s[n]
          have hcn:=Jo s[n];by_cases hc:AX s[n]≠2∧((1:Int)≠1∨(AX s[n]≠1∧AX s[n]≠3))
          ·have e:=hn9.out;rw [SA hn hc] at e;subst e;clear hn9;have hc1:=hc.1;have hc2:AX s[n]≠1∧AX s[n]≠3:=by rcases hc.2 with h|h;exact absurd rfl h;exact h
           clear hc;repeat' ((apply ZZ 22);first|apply sG ()|(with_reducible refine Sl.k_guard ?_;refine Sl.guard_cases rfl ?_ ?_<;>intro hg<;>(simp only [hg,Bool.not_true,Bool.not_false])<;>(try replace hg:=gN hg)<;>apply nW ())|(apply tX ();refine Ag V (by exact Cd X X StrT.u Af Af) ?_<;>apply nW ())|(apply O ();go_step)|(apply kc ();refine sc (cX _ V) ?_;clear V;rintro v w ⟨rfl,V⟩)|(apply kc ();refine Ag V (by exact AW X Y) ?_<;>apply nW ())|fail)
           all_goals (try (exfalso;omega))
           apply b9 ()
          ·have HNx:=Lib.hid ((SB (f:=f') hn hc).symm.trans hn9.out);rcases (show AX s[n]=1∨AX s[n]=2∨AX s[n]=3 by omega) with hq|hq|hq
           all_goals
            apply j4 ()
         ·have e:=hn9.out;rw [Pc (by omega)] at e;subst e;clear hn9;repeat' ((apply ZZ 22);first|(apply O ();go_step)|(apply kc ();refine Ag V (by exact AW X Y) ?_<;>apply nW ())|fail)
          apply b9 ()
       ·have hk:=Lib.hid h2;rw [h2] at cC;clear h4 h3 h0;have hk0:Hid (B8 s 2 s.length (i+1)=B8 s 2 s.length (i+1)):=Lib.hid rfl;obtain ⟨E,hE⟩:∃ E,B8 s 2 s.length (i+1)=E:=⟨_,rfl⟩
        have hE:=Lib.hid hE;have hEb:=LM s 2 s.length (i+1) (by omega);rw [hE.out] at hEb;clear h2 hk0;repeat' ((apply ZZ 18);first|(apply tX ();refine Ag V (by exact Cd X X StrT.u Af Af) ?_<;>apply nW ())|(apply O ();go_step)|(apply kc ();refine sc (cC _ V) ?_;clear V;rintro v w ⟨rfl,V⟩)|(apply kc ();refine Ag V (by exact AW X Y) ?_<;>apply nW ())|fail)
        go_loopw [8,9] (fun u8 _ wr=>∃ (f' n:Nat),u8=.int .i64 (n:Int)∧Hid (B8 s 2 f' n=E)∧(i+1≤n∧n≤s.length∧s.length≤f'+n)∧St S (.sl (Ar so) 175 4 out.length co::M) wr) (fun v _ _=>s.length - (intOf v).toNat)
        case atStart=>exact ⟨s.length,i+1,by go_num,hE,by omega,V⟩
        case round =>
         clear V;obtain ⟨f',n,rfl,hn9,hb,V⟩:=hrel;by_cases hn:n < s.length
         ·obtain ⟨f',rfl⟩:∃ g,f'=g+1:=⟨f' - 1,by omega⟩
          have cX:=fun {M} w (V:St S M w)=>Jp w V s[n]
          have hcn:=Jo s[n];by_cases hc:AX s[n]≠2∧((2:Int)≠1∨(AX s[n]≠1∧AX s[n]≠3))
          ·have e:=hn9.out;rw [SA hn hc] at e;subst e;clear hn9;have hc1:=hc.1;clear hc;repeat' ((apply ZZ 22);first|apply sG ()|(with_reducible refine Sl.k_guard ?_;refine Sl.guard_cases rfl ?_ ?_<;>intro hg<;>(simp only [hg,Bool.not_true,Bool.not_false])<;>(try replace hg:=gN hg)<;>apply nW ())|(apply tX ();refine Ag V (by exact Cd X X StrT.u Af Af) ?_<;>apply nW ())|(apply O ();go_step)|(apply kc ();refine sc (cX _ V) ?_;clear V;rintro v w ⟨rfl,V⟩)|(apply kc ();refine Ag V (by exact AW X Y) ?_<;>apply nW ())|fail)
           all_goals (try (exfalso;omega))
           repeat' (first|(apply O ();go_step)|fail)
           refine Ag V (GR (i:=i) (m:=n) rfl rfl rfl rfl rfl Y (by omega) (by omega)) ?_;apply nW ();repeat' (first|apply sG ()|(apply O ();go_step)|(apply sS ();clear V;intro w V)|(apply sA ();clear V;intro bk w V)|fail)
           refine Ag V (GR (i:=i) (m:=n) rfl rfl rfl rfl rfl Y (by omega) (by omega)) ?_;apply nW ();have cN:=fun {M} w (V:St S M w)=>No w V ((s.drop i).take (n - i)) (by simp only [List.length_take,List.length_drop];omega) (by simp only [List.length_take,List.length_drop];omega)
           have HW:=Lib.hid (show ((s.drop i).take (n - i))=((s.drop i).take (n - i)) from rfl);have hnx:L8 s n=AX s[n]:=by unfold L8;rw [if_pos hn];exact congrArg AX (Gt hn)
           have hv9:=Sc ((s.drop i).take (n - i));have TA:=fun h=>Lib.hid (HR.out.symm.trans (NZ (f:=f) (out:=out) hlt hk.out h))
           have TB:=fun h=>Lib.hid ((NY (f:=f) (out:=out) hlt hk.out h).symm.trans HR.out)
           rw [hE.out,hnx] at TA TB;clear HR hnx;generalize hvv:GT ((s.drop i).take (n - i))=v at *;clear hvv;have cX:=fun {M} w (V:St S M w)=>Jp w V s[n]
           generalize AX s[n]=c at *;by_cases hbad:v < 0∨c=1∨c=3
           ·have HN:=TA hbad;clear TA TB;repeat' (first|apply sG ()|(with_reducible refine Sl.k_guard ?_;refine Sl.guard_cases rfl ?_ ?_<;>intro hg<;>(simp only [hg,Bool.not_true,Bool.not_false])<;>(try replace hg:=gN hg)<;>apply nW ())|(apply tX ();refine Ag V (by exact Cd X X StrT.u Af Af) ?_<;>apply nW ())|(apply O ();go_step)|(apply kc ();refine sc (cN _ V) ?_;clear V;rintro v w ⟨rfl,V⟩)|(apply kc ();refine sc (cX _ V) ?_;clear V;rintro v w ⟨rfl,V⟩)|(apply kc ();refine Ag V (by exact AW X Y) ?_<;>apply nW ())|apply sX ()|(apply sS ();clear V;intro w V)|fail)
            all_goals first
             | (exfalso;(try simp only [beq_iff_eq,beq_eq_false_iff_ne,ne_eq] at *);omega)
             | (refine Bc rfl (A8 rfl) (A8 rfl) ?_;(try simp only [AV,List.drop_zero,List.drop_succ_cons,List.take_succ_cons,List.take_zero,AB,Ap]);refine ⟨_,rfl,S,(none,0,0),.refl _,by rw [HN.out],by rw [HN.out];exact ID,V.drop.drop⟩)
           ·have HN:=TB hbad;clear TA TB;have hg1:0≤v:=by omega
            have hg2:c≠1∧c≠3:=by omega
            clear hbad;repeat' ((apply ZZ 32);first|apply sG ()|(with_reducible refine Sl.k_guard ?_;refine Sl.guard_cases rfl ?_ ?_<;>intro hg<;>first|exact gX|(simp only [hg,Bool.not_true,Bool.not_false])<;>(try replace hg:=gN hg)<;>apply nW ())|(apply tX ();refine Ag V (by exact Cd X X StrT.u Af Af) ?_<;>apply nW ())|(apply O ();go_step)|(apply kc ();refine sc (cN _ V) ?_;clear V;rintro v w ⟨rfl,V⟩)|(apply kc ();refine sc (cX _ V) ?_;clear V;rintro v w ⟨rfl,V⟩)|(apply kc ();refine Ag V (by exact AW X Y) ?_<;>apply nW ())|apply sX ()|(apply sS ();clear V;intro w V)|fail)
            apply kD ()
          ·have HNx:=Lib.hid ((SB (f:=f') hn hc).symm.trans hn9.out);rcases (show AX s[n]=2 by omega) with hq
           all_goals
            apply j4 ()
         ·have e:=hn9.out;rw [Pc (by omega)] at e;subst e;clear hn9;repeat' ((apply ZZ 22);first|(apply O ();go_step)|(apply kc ();refine Ag V (by exact AW X Y) ?_<;>apply nW ())|fail)
          repeat' (first|(apply O ();go_step)|fail)
          refine Ag V (GR (i:=i) (m:=n) rfl rfl rfl rfl rfl Y (by omega) (by omega)) ?_;apply nW ();repeat' (first|apply sG ()|(apply O ();go_step)|(apply sS ();clear V;intro w V)|(apply sA ();clear V;intro bk w V)|fail)
          refine Ag V (GR (i:=i) (m:=n) rfl rfl rfl rfl rfl Y (by omega) (by omega)) ?_;apply nW ();have cN:=fun {M} w (V:St S M w)=>No w V ((s.drop i).take (n - i)) (by simp only [List.length_take,List.length_drop];omega) (by simp only [List.length_take,List.length_drop];omega)
          have HW:=Lib.hid (show ((s.drop i).take (n - i))=((s.drop i).take (n - i)) from rfl);have hnx:L8 s n=0:=by unfold L8;rw [if_neg (by omega)]
          have hv9:=Sc ((s.drop i).take (n - i));have TA:=fun h=>Lib.hid (HR.out.symm.trans (NZ (f:=f) (out:=out) hlt hk.out h))
          have TB:=fun h=>Lib.hid ((NY (f:=f) (out:=out) hlt hk.out h).symm.trans HR.out)
          rw [hE.out,hnx] at TA TB;clear HR hnx;generalize hvv:GT ((s.drop i).take (n - i))=v at *;clear hvv;by_cases hbad:v < 0∨(0:Int)=1∨(0:Int)=3
          ·have HN:=TA hbad;clear TA TB;repeat' (first|apply sG ()|(with_reducible refine Sl.k_guard ?_;refine Sl.guard_cases rfl ?_ ?_<;>intro hg<;>first|exact gX|(simp only [hg,Bool.not_true,Bool.not_false])<;>(try replace hg:=gN hg)<;>apply nW ())|(apply O ();go_step)|(apply kc ();refine sc (cN _ V) ?_;clear V;rintro v w ⟨rfl,V⟩)|(apply kc ();refine Ag V (by exact AW X Y) ?_<;>apply nW ())|apply sX ()|(apply sS ();clear V;intro w V)|fail)
           all_goals first
            | (exfalso;(try simp only [beq_iff_eq,beq_eq_false_iff_ne,ne_eq] at *);omega)
            | (refine Bc rfl (A8 rfl) (A8 rfl) ?_;(try simp only [AV,List.drop_zero,List.drop_succ_cons,List.take_succ_cons,List.take_zero,AB,Ap]);refine ⟨_,rfl,S,(none,0,0),.refl _,by rw [HN.out],by rw [HN.out];exact ID,V.drop.drop⟩)
          ·have HN:=TB hbad;clear TA TB;have hg1:0≤v:=by omega
           clear hbad;repeat' ((apply ZZ 32);first|apply sG ()|(with_reducible refine Sl.k_guard ?_;refine Sl.guard_cases rfl ?_ ?_<;>intro hg<;>first|exact gX|(simp only [hg,Bool.not_true,Bool.not_false])<;>(try replace hg:=gN hg)<;>apply nW ())|(apply O ();go_step)|(apply kc ();refine sc (cN _ V) ?_;clear V;rintro v w ⟨rfl,V⟩)|(apply kc ();refine Ag V (by exact AW X Y) ?_<;>apply nW ())|apply sX ()|(apply sS ();clear V;intro w V)|fail)
           apply kD ()
   ·have HN:=Lib.hid (HR.out.symm.trans (RO hlt));clear HR;repeat' (first|(apply O ();go_step)|(apply kc ();refine Ag V (by exact AW X Y) ?_<;>apply nW ())|fail)
    obtain ⟨S2,hS2,hst2,hx⟩:=St.freeze (α:=Tk) V hR rfl;clear V;have V:=hst2;clear hst2;refine Bc rfl (A8 rfl) (A8 rfl) ?_;(try simp only [AV,List.drop_zero,List.drop_succ_cons,List.take_succ_cons,List.take_zero,AB,Ap]);exact ⟨_,rfl,S2,so,hS2,by rw [HN.out],by rw [HN.out];exact hx,V⟩
end Go.Proofs.YtmmbidoldegemaaGreatDoor
