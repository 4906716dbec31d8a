/- Part 10 of the proof that the law of the last part holds; no conditions. -/
import Derived.Test.YtmmbidoldegemaaGreatDoorZ08
set_option linter.unusedSimpArgs false
set_option linter.unusedVariables false
set_option maxRecDepth 8000
set_option maxHeartbeats 8000000
namespace Go.Proofs.YtmmbidoldegemaaGreatDoor
open Go.RowKit Go.Sl
theorem Wr {S M} (w:World) (hst:St S M w) (s:List UInt8) (hB:s.length≤1048576) :
  Ad Tryz.prog 57 [.string ⟨s.toArray⟩] w fun v w'=>∃ S' so,S.Le S'∧v=.tuple #[Ar so,.int .i64 (Cr s).2]∧RSl S' (Ar so) (Cr s).1∧St S' M w':=by
 unfold Ad;by_cases h15:s.length > 1500
 ·have HR:Hid (Cr s=([],2)):=Lib.hid (if_pos h15);go_enter Tryz.func57,Tryz.ntmps57;repeat' (first|(apply gK ();go_step)|(with_reducible refine kC ?_;refine Ag hst (by exact AS Ab Aa) ?_<;>(try refine nX ?_))|fail)
  refine A7 rfl (A3 rfl) (A3 rfl) ?_;(try simp only [AX,List.drop_zero,List.drop_succ_cons,List.take_succ_cons,List.take_zero,As,Ap]);refine ⟨_,rfl,S,(none,0,0),.refl _,by rw [HR.out],by rw [HR.out];exact Jq,hst⟩
 ·have HR0:Cr s=CI s (s.length+1) 0 []:=if_neg h15;obtain ⟨R,hR⟩:∃ R,Cr s=R:=⟨_,rfl⟩
  rw [hR] at HR0 ⊢;have HR:=Lib.hid HR0.symm;clear hR HR0;go_enter Tryz.func57,Tryz.ntmps57;replace hst:=hst.nil 175 4;repeat' (first|(apply gK ();go_step)|(with_reducible refine kC ?_;refine Ag hst (by exact AS Ab Aa) ?_<;>(try refine nX ?_))|fail)
  go_loopw [4,5] (fun u4 u5 wr=>∃ (f i:Nat) (out:List Tk) (so:Sv) (co:List Value),u4=Ar so∧u5=.int .i64 (i:Int)∧Hid (CI s f i out=R)∧(i≤s.length∧s.length+1≤f+i)∧out.length≤i∧RL S co out∧St S (.sl (Ar so) 175 4 out.length co::M) wr) (fun _ v _=>s.length - (intOf v).toNat)
  case atStart=>exact ⟨s.length+1,0,[],(none,0,0),[],rfl,rfl,HR,⟨Nat.zero_le _,by omega⟩,Nat.zero_le _,RL.nil,hst⟩
  case round =>
   clear hst HR;obtain ⟨f,i,out,so,co,rfl,rfl,HR,hf,ho,hR,hst⟩:=hrel;have hone:=AW hst;by_cases hlt:i < s.length
   ·obtain ⟨f,rfl⟩:∃ g,f=g+1:=⟨f - 1,by omega⟩
    have cC:=fun {M:List Chunk} (w:World) (hst:St S M w)=>IG w hst s[i]
    have hcl:=IF s[i];by_cases h4:AU s[i]=4
    ·have HN:=Lib.hid ((TK (f:=f) (out:=out) hlt h4).symm.trans HR.out);rw [h4] at cC;clear h4 HR;repeat' (first|(with_reducible refine kX ?_;refine Ag hst (by exact BY Ab Ab StrT.u Af Af) ?_<;>(try refine nX ?_))|(apply gK ();go_step)|(apply kc ();refine sc (cC _ hst) ?_;clear hst;rintro v w ⟨rfl,hst⟩)|(with_reducible refine kC ?_;refine Ag hst (by exact AS Ab Aa) ?_<;>(try refine nX ?_))|fail)
     go_roundw
     case rel=>exact ⟨f,i+1,out,so,co,rfl,by go_num,HN,by omega,by omega,hR,hst⟩
     case measure=>simp [intOf];omega
    ·by_cases h3:AU s[i]=3
     ·have HN:=Lib.hid (HR.out.symm.trans (TL hlt h3));rw [h3] at cC;clear h4 h3 HR;repeat' (first|(with_reducible refine kX ?_;refine Ag hst (by exact BY Ab Ab StrT.u Af Af) ?_<;>(try refine nX ?_))|(apply gK ();go_step)|(apply kc ();refine sc (cC _ hst) ?_;clear hst;rintro v w ⟨rfl,hst⟩)|(with_reducible refine kC ?_;refine Ag hst (by exact AS Ab Aa) ?_<;>(try refine nX ?_))|fail)
      apply eV ()
     ·by_cases h0:AU s[i]=0
      ·have cS:=fun {M:List Chunk} (w:World) (hst:St S M w)=>WH w hst s i hlt hB
       have hs:=OJ s hlt;rw [h0] at cC;by_cases hn:Eb s i=0
       ·have HN:=Lib.hid (HR.out.symm.trans (TN hlt h0 hn));rw [hn] at cS;clear h4 h3 h0 HR hs hn;repeat' (first|(with_reducible refine kX ?_;refine Ag hst (by exact BY Ab Ab StrT.u Af Af) ?_<;>(try refine nX ?_))|(apply gK ();go_step)|(apply kc ();refine sc (cC _ hst) ?_;clear hst;rintro v w ⟨rfl,hst⟩)|(apply kc ();refine sc (cS _ hst) ?_;clear hst;rintro v w ⟨rfl,hst⟩)|(with_reducible refine kC ?_;refine Ag hst (by exact AS Ab Aa) ?_<;>(try refine nX ?_))|fail)
        apply eV ()
       ·have HN:=Lib.hid ((TM (f:=f) (out:=out) hlt h0 hn).symm.trans HR.out);generalize Eb s i=n at *;clear h4 h3 h0 HR;repeat' ((apply Lr ());first|(with_reducible refine kX ?_;refine Ag hst (by exact BY Ab Ab StrT.u Af Af) ?_<;>(try refine nX ?_))|(apply gK ();go_step)|(apply kc ();refine sc (cC _ hst) ?_;clear hst;rintro v w ⟨rfl,hst⟩)|(apply kc ();refine sc (cS _ hst) ?_;clear hst;rintro v w ⟨rfl,hst⟩)|(with_reducible refine kC ?_;refine Ag hst (by exact AS Ab Aa) ?_<;>(try refine nX ?_))|fail)
        repeat' (first|(apply gK ();go_step)|fail)
        refine Ag hst (ZD (i:=i) (n:=n) rfl rfl rfl Aa (by omega)) ?_;(try refine nX ?_);repeat' (first|(apply gK ();go_step)|fail)
        refine AA (vs:=[(.agg #[.int .i64 3,.string ⟨((s.drop i).take n).toArray⟩,.int .i64 0,.int .i64 (i:Int)])]) hst Aa Aa rfl rfl (by simp [Value.cells]) rfl (by omega) (by omega) ?_;clear hst;intro u w hst;simp only [List.set_cons_succ,List.set_cons_zero,As,Ap,List.drop_succ_cons,List.drop_zero,List.take_succ_cons,List.take_zero,A0,Int.toNat_zero,Int.reduceToNat,Nat.mul_one,Nat.zero_add,Nat.add_zero,Nat.reduceMul,Nat.reduceAdd,Nat.zero_mul,Int.reduceSub,Int.reduceAdd,Int.reduceMul,Int.reduceNeg,Bool.not_true,Bool.not_false];refine AG (j:=0) hst Ab Ab SlIn.h rfl Aa Aa Aa (by simp [Value.cells,Value.oneCell']) (by omega) (by omega) (by decide) ?_;clear hst;intro v' w hst;simp only [List.set_cons_succ,List.set_cons_zero,As,Ap,List.drop_succ_cons,List.drop_zero,List.take_succ_cons,List.take_zero,A0,Int.toNat_zero,Int.reduceToNat,Nat.mul_one,Nat.zero_add,Nat.add_zero,Nat.reduceMul,Nat.reduceAdd,Nat.zero_mul,Int.reduceSub,Int.reduceAdd,Int.reduceMul,Int.reduceNeg,Bool.not_true,Bool.not_false];(try replace hst:=nH hst);replace hst:=hst.drop;obtain ⟨ay,cy,rfl⟩:=sl_formk (k:=0) hst rfl;(try refine nX ?_);repeat' (first|(apply gK ();go_step)|fail)
        go_roundw
        case rel=>exact ⟨f,i+n,_,(ay,out.length+1,cy),_,rfl,by go_num,HN,by omega,by simp only [List.length_append,List.length_cons,List.length_nil];omega,hR.append (RL.one_mk (Xc (s:=⟨(s.drop i).take n⟩) (Aj (by decide)) (by unfold maxLen;simp only [List.length_take,List.length_drop];omega) (Aj (by decide)) (Aj ⟨by omega,by omega⟩))),by simpa using hst⟩
        case measure=>simp [intOf];omega
      ·rcases (show AU s[i]=1∨AU s[i]=2 by omega) with h1|h2
       ·have hk:=Lib.hid h1;rw [h1] at cC;clear h4 h3 h0;have hk0:Hid (BU s 1 s.length (i+1)=BU s 1 s.length (i+1)):=Lib.hid rfl;obtain ⟨E,hE⟩:∃ E,BU s 1 s.length (i+1)=E:=⟨_,rfl⟩
        have hE:=Lib.hid hE;have hEb:=KU s 1 s.length (i+1) (by omega);rw [hE.out] at hEb;clear h1 hk0;repeat' ((apply iI ());first|(with_reducible refine kX ?_;refine Ag hst (by exact BY Ab Ab StrT.u Af Af) ?_<;>(try refine nX ?_))|(apply gK ();go_step)|(apply kc ();refine sc (cC _ hst) ?_;clear hst;rintro v w ⟨rfl,hst⟩)|(with_reducible refine kC ?_;refine Ag hst (by exact AS Ab Aa) ?_<;>(try refine nX ?_))|fail)
        go_loopw [8,9] (fun u8 _ wr=>∃ (f' n:Nat),u8=.int .i64 (n:Int)∧Hid (BU s 1 f' n=E)∧(i+1≤n∧n≤s.length∧s.length≤f'+n)∧St S (.sl (Ar so) 175 4 out.length co::M) wr) (fun v _ _=>s.length - (intOf v).toNat)
        case atStart=>exact ⟨s.length,i+1,by go_num,hE,by omega,hst⟩
        case round =>
         clear hst;obtain ⟨f',n,rfl,hn9,hb,hst⟩:=hrel;by_cases hn:n < s.length
         ·obtain ⟨f',rfl⟩:∃ g,f'=g+1:=⟨f' - 1,by omega⟩
          have cX:=fun {M:List Chunk} (w:World) (hst:St S M w)=>IG w hst s[n]
          have hcn:=IF s[n];by_cases hc:AU s[n]≠2∧((1:Int)≠1∨(AU s[n]≠1∧AU s[n]≠3))
          ·have e:=hn9.out;rw [Rt hn hc] at e;subst e;clear hn9;have hc1:=hc.1;have hc2:AU s[n]≠1∧AU s[n]≠3:=by rcases hc.2 with h|h;exact absurd rfl h;exact h
           clear hc;repeat' ((apply Oj ());first|apply sG ()|(with_reducible refine Sl.k_guard ?_;refine Sl.guard_cases rfl ?_ ?_<;>intro hg<;>(simp only [hg,Bool.not_true,Bool.not_false])<;>(try replace hg:=gN hg)<;>(try refine nX ?_))|(with_reducible refine kX ?_;refine Ag hst (by exact BY Ab Ab StrT.u Af Af) ?_<;>(try refine nX ?_))|(apply gK ();go_step)|(apply kc ();refine sc (cX _ hst) ?_;clear hst;rintro v w ⟨rfl,hst⟩)|(with_reducible refine kC ?_;refine Ag hst (by exact AS Ab Aa) ?_<;>(try refine nX ?_))|fail)
           all_goals (try (exfalso;omega))
           apply b4 ()
          ·have HNx:=Lib.hid ((Ru (f:=f') hn hc).symm.trans hn9.out);rcases (show AU s[n]=1∨AU s[n]=2∨AU s[n]=3 by omega) with hq|hq|hq
           all_goals
            apply ig ()
         ·have e:=hn9.out;rw [Oe (by omega)] at e;subst e;clear hn9;repeat' ((apply Oj ());first|(apply gK ();go_step)|(with_reducible refine kC ?_;refine Ag hst (by exact AS Ab Aa) ?_<;>(try refine nX ?_))|fail)
          apply b4 ()
       ·have hk:=Lib.hid h2;rw [h2] at cC;clear h4 h3 h0;have hk0:Hid (BU s 2 s.length (i+1)=BU s 2 s.length (i+1)):=Lib.hid rfl;obtain ⟨E,hE⟩:∃ E,BU s 2 s.length (i+1)=E:=⟨_,rfl⟩
        have hE:=Lib.hid hE;have hEb:=KU s 2 s.length (i+1) (by omega);rw [hE.out] at hEb;clear h2 hk0;repeat' ((apply iI ());first|(with_reducible refine kX ?_;refine Ag hst (by exact BY Ab Ab StrT.u Af Af) ?_<;>(try refine nX ?_))|(apply gK ();go_step)|(apply kc ();refine sc (cC _ hst) ?_;clear hst;rintro v w ⟨rfl,hst⟩)|(with_reducible refine kC ?_;refine Ag hst (by exact AS Ab Aa) ?_<;>(try refine nX ?_))|fail)
        go_loopw [8,9] (fun u8 _ wr=>∃ (f' n:Nat),u8=.int .i64 (n:Int)∧Hid (BU s 2 f' n=E)∧(i+1≤n∧n≤s.length∧s.length≤f'+n)∧St S (.sl (Ar so) 175 4 out.length co::M) wr) (fun v _ _=>s.length - (intOf v).toNat)
        case atStart=>exact ⟨s.length,i+1,by go_num,hE,by omega,hst⟩
        case round =>
         clear hst;obtain ⟨f',n,rfl,hn9,hb,hst⟩:=hrel;by_cases hn:n < s.length
         ·obtain ⟨f',rfl⟩:∃ g,f'=g+1:=⟨f' - 1,by omega⟩
          have cX:=fun {M:List Chunk} (w:World) (hst:St S M w)=>IG w hst s[n]
          have hcn:=IF s[n];by_cases hc:AU s[n]≠2∧((2:Int)≠1∨(AU s[n]≠1∧AU s[n]≠3))
          ·have e:=hn9.out;rw [Rt hn hc] at e;subst e;clear hn9;have hc1:=hc.1;clear hc;repeat' ((apply Oj ());first|apply sG ()|(with_reducible refine Sl.k_guard ?_;refine Sl.guard_cases rfl ?_ ?_<;>intro hg<;>(simp only [hg,Bool.not_true,Bool.not_false])<;>(try replace hg:=gN hg)<;>(try refine nX ?_))|(with_reducible refine kX ?_;refine Ag hst (by exact BY Ab Ab StrT.u Af Af) ?_<;>(try refine nX ?_))|(apply gK ();go_step)|(apply kc ();refine sc (cX _ hst) ?_;clear hst;rintro v w ⟨rfl,hst⟩)|(with_reducible refine kC ?_;refine Ag hst (by exact AS Ab Aa) ?_<;>(try refine nX ?_))|fail)
           all_goals (try (exfalso;omega))
           repeat' (first|(apply gK ();go_step)|fail)
           refine Ag hst (Gj (i:=i) (m:=n) rfl rfl rfl rfl rfl Aa (by omega) (by omega)) ?_;(try refine nX ?_);repeat' (first|apply sG ()|(apply gK ();go_step)|(apply sS ();clear hst;intro w hst)|(apply sA ();clear hst;intro bk w hst)|fail)
           refine Ag hst (Gj (i:=i) (m:=n) rfl rfl rfl rfl rfl Aa (by omega) (by omega)) ?_;(try refine nX ?_);have cN:=fun {M:List Chunk} (w:World) (hst:St S M w)=>Mo w hst ((s.drop i).take (n - i)) (by simp only [List.length_take,List.length_drop];omega) (by simp only [List.length_take,List.length_drop];omega)
           have HW:=Lib.hid (show ((s.drop i).take (n - i))=((s.drop i).take (n - i)) from rfl);have hnx:Ld s n=AU s[n]:=by unfold Ld;rw [if_pos hn];exact congrArg AU (FS hn)
           have hv9:=Q6 ((s.drop i).take (n - i));have TA:=fun h=>Lib.hid (HR.out.symm.trans (MX (f:=f) (out:=out) hlt hk.out h))
           have TB:=fun h=>Lib.hid ((MW (f:=f) (out:=out) hlt hk.out h).symm.trans HR.out)
           rw [hE.out,hnx] at TA TB;clear HR hnx;generalize hvv:Gl ((s.drop i).take (n - i))=v at *;clear hvv;have cX:=fun {M:List Chunk} (w:World) (hst:St S M w)=>IG w hst s[n]
           generalize AU s[n]=c at *;by_cases hbad:v < 0∨c=1∨c=3
           ·have HN:=TA hbad;clear TA TB;repeat' (first|apply sG ()|(with_reducible refine Sl.k_guard ?_;refine Sl.guard_cases rfl ?_ ?_<;>intro hg<;>(simp only [hg,Bool.not_true,Bool.not_false])<;>(try replace hg:=gN hg)<;>(try refine nX ?_))|(with_reducible refine kX ?_;refine Ag hst (by exact BY Ab Ab StrT.u Af Af) ?_<;>(try refine nX ?_))|(apply gK ();go_step)|(apply kc ();refine sc (cN _ hst) ?_;clear hst;rintro v w ⟨rfl,hst⟩)|(apply kc ();refine sc (cX _ hst) ?_;clear hst;rintro v w ⟨rfl,hst⟩)|(with_reducible refine kC ?_;refine Ag hst (by exact AS Ab Aa) ?_<;>(try refine nX ?_))|apply sX ()|(apply sS ();clear hst;intro w hst)|fail)
            all_goals first
             | (exfalso;(try simp only [beq_iff_eq,beq_eq_false_iff_ne,ne_eq] at *);omega)
             | (refine A7 rfl (A3 rfl) (A3 rfl) ?_;(try simp only [AX,List.drop_zero,List.drop_succ_cons,List.take_succ_cons,List.take_zero,As,Ap]);refine ⟨_,rfl,S,(none,0,0),.refl _,by rw [HN.out],by rw [HN.out];exact Jq,hst.drop.drop⟩)
           ·have HN:=TB hbad;clear TA TB;have hg1:0≤v:=by omega
            have hg2:c≠1∧c≠3:=by omega
            clear hbad;repeat' ((apply fc ());first|apply sG ()|(with_reducible refine Sl.k_guard ?_;refine Sl.guard_cases rfl ?_ ?_<;>intro hg<;>first|exact gX|(simp only [hg,Bool.not_true,Bool.not_false])<;>(try replace hg:=gN hg)<;>(try refine nX ?_))|(with_reducible refine kX ?_;refine Ag hst (by exact BY Ab Ab StrT.u Af Af) ?_<;>(try refine nX ?_))|(apply gK ();go_step)|(apply kc ();refine sc (cN _ hst) ?_;clear hst;rintro v w ⟨rfl,hst⟩)|(apply kc ();refine sc (cX _ hst) ?_;clear hst;rintro v w ⟨rfl,hst⟩)|(with_reducible refine kC ?_;refine Ag hst (by exact AS Ab Aa) ?_<;>(try refine nX ?_))|apply sX ()|(apply sS ();clear hst;intro w hst)|fail)
            apply b8 ()
          ·have HNx:=Lib.hid ((Ru (f:=f') hn hc).symm.trans hn9.out);rcases (show AU s[n]=2 by omega) with hq
           all_goals
            apply ig ()
         ·have e:=hn9.out;rw [Oe (by omega)] at e;subst e;clear hn9;repeat' ((apply Oj ());first|(apply gK ();go_step)|(with_reducible refine kC ?_;refine Ag hst (by exact AS Ab Aa) ?_<;>(try refine nX ?_))|fail)
          repeat' (first|(apply gK ();go_step)|fail)
          refine Ag hst (Gj (i:=i) (m:=n) rfl rfl rfl rfl rfl Aa (by omega) (by omega)) ?_;(try refine nX ?_);repeat' (first|apply sG ()|(apply gK ();go_step)|(apply sS ();clear hst;intro w hst)|(apply sA ();clear hst;intro bk w hst)|fail)
          refine Ag hst (Gj (i:=i) (m:=n) rfl rfl rfl rfl rfl Aa (by omega) (by omega)) ?_;(try refine nX ?_);have cN:=fun {M:List Chunk} (w:World) (hst:St S M w)=>Mo w hst ((s.drop i).take (n - i)) (by simp only [List.length_take,List.length_drop];omega) (by simp only [List.length_take,List.length_drop];omega)
          have HW:=Lib.hid (show ((s.drop i).take (n - i))=((s.drop i).take (n - i)) from rfl);have hnx:Ld s n=0:=by unfold Ld;rw [if_neg (by omega)]
          have hv9:=Q6 ((s.drop i).take (n - i));have TA:=fun h=>Lib.hid (HR.out.symm.trans (MX (f:=f) (out:=out) hlt hk.out h))
          have TB:=fun h=>Lib.hid ((MW (f:=f) (out:=out) hlt hk.out h).symm.trans HR.out)
          rw [hE.out,hnx] at TA TB;clear HR hnx;generalize hvv:Gl ((s.drop i).take (n - i))=v at *;clear hvv;by_cases hbad:v < 0∨(0:Int)=1∨(0:Int)=3
          ·have HN:=TA hbad;clear TA TB;repeat' (first|apply sG ()|(with_reducible refine Sl.k_guard ?_;refine Sl.guard_cases rfl ?_ ?_<;>intro hg<;>first|exact gX|(simp only [hg,Bool.not_true,Bool.not_false])<;>(try replace hg:=gN hg)<;>(try refine nX ?_))|(apply gK ();go_step)|(apply kc ();refine sc (cN _ hst) ?_;clear hst;rintro v w ⟨rfl,hst⟩)|(with_reducible refine kC ?_;refine Ag hst (by exact AS Ab Aa) ?_<;>(try refine nX ?_))|apply sX ()|(apply sS ();clear hst;intro w hst)|fail)
           all_goals first
            | (exfalso;(try simp only [beq_iff_eq,beq_eq_false_iff_ne,ne_eq] at *);omega)
            | (refine A7 rfl (A3 rfl) (A3 rfl) ?_;(try simp only [AX,List.drop_zero,List.drop_succ_cons,List.take_succ_cons,List.take_zero,As,Ap]);refine ⟨_,rfl,S,(none,0,0),.refl _,by rw [HN.out],by rw [HN.out];exact Jq,hst.drop.drop⟩)
          ·have HN:=TB hbad;clear TA TB;have hg1:0≤v:=by omega
           clear hbad;repeat' ((apply fc ());first|apply sG ()|(with_reducible refine Sl.k_guard ?_;refine Sl.guard_cases rfl ?_ ?_<;>intro hg<;>first|exact gX|(simp only [hg,Bool.not_true,Bool.not_false])<;>(try replace hg:=gN hg)<;>(try refine nX ?_))|(apply gK ();go_step)|(apply kc ();refine sc (cN _ hst) ?_;clear hst;rintro v w ⟨rfl,hst⟩)|(with_reducible refine kC ?_;refine Ag hst (by exact AS Ab Aa) ?_<;>(try refine nX ?_))|apply sX ()|(apply sS ();clear hst;intro w hst)|fail)
           apply b8 ()
   ·have HN:=Lib.hid (HR.out.symm.trans (QH hlt));clear HR;repeat' (first|(apply gK ();go_step)|(with_reducible refine kC ?_;refine Ag hst (by exact AS Ab Aa) ?_<;>(try refine nX ?_))|fail)
    obtain ⟨S2,hS2,hst2,hx⟩:=St.freeze (α:=Tk) hst hR rfl;clear hst;have hst:=hst2;clear hst2;refine A7 rfl (A3 rfl) (A3 rfl) ?_;(try simp only [AX,List.drop_zero,List.drop_succ_cons,List.take_succ_cons,List.take_zero,As,Ap]);exact ⟨_,rfl,S2,so,hS2,by rw [HN.out],by rw [HN.out];exact hx,hst⟩
end Go.Proofs.YtmmbidoldegemaaGreatDoor
