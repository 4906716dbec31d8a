/- Part 11 of the proof that the law of the last part holds; no conditions. -/
import Derived.Test.YtmmbidoldegemaaGreatDoorZ05
set_option linter.unusedSimpArgs false
set_option linter.unusedVariables false
set_option maxRecDepth 8000
set_option maxHeartbeats 8000000
namespace Go.Proofs.YtmmbidoldegemaaGreatDoor
open Go.RowKit Go.Sl
def bM (t:Tk):Bool:=t.1 == 3 && (decide (t.2.1.b=[40]) || decide (t.2.1.b=[123]))
def eG (t:Tk):Bool:=t.1 == 3 && (decide (t.2.1.b=[41]) || decide (t.2.1.b=[125]))
def VD (t:Tk) (n:Int):Int:=if bM t then n+1 else n
def VC (t:Tk) (n:Int):Int:=if eG t then n - 1 else n
theorem Qw (t:Tk) (r:List Tk) (n most:Int):Ep (t::r) n most=Ep r (VC t (VD t n)) (max most (VC t (VD t n))):=by
 have h1:(if t.1=3∧(t.2.1.b=[40]∨t.2.1.b=[123]) then n+1 else n)=VD t n:=by
  unfold VD bM;by_cases h:t.1=3∧(t.2.1.b=[40]∨t.2.1.b=[123])
  ·rw [if_pos h,if_pos (by simpa using h)]
  ·rw [if_neg h,if_neg (by simpa using h)]
 have h2:∀ n,(if t.1=3∧(t.2.1.b=[41]∨t.2.1.b=[125]) then n - 1 else n)=VC t n:=by
  intro n;unfold VC eG;by_cases h:t.1=3∧(t.2.1.b=[41]∨t.2.1.b=[125])
  ·rw [if_pos h,if_pos (by simpa using h)]
  ·rw [if_neg h,if_neg (by simpa using h)]
 rw [Ep];simp only [h1,h2]
theorem RA {S M} (w:World) (hst:St S M w) (v:Value) (l:List Tk) (hl:RSl S v l) (hm:l.length≤1500) :
  Ad Tryz.prog 58 [v] w fun v w'=>v=.int .i64 (Ep l 0 0)∧St S M w':=by
 unfold Ad;obtain ⟨R,hR⟩:∃ R,Ep l 0 0=R:=⟨_,rfl⟩
 rw [hR];have HR:=Lib.hid hR;clear hR;obtain ⟨a,n,c,rfl⟩:=BO hl;go_enter Tryz.func58,Tryz.ntmps58;repeat' (first|(apply gK ();go_step)|fail)
 go_loopw [3,4,5] (fun u3 u4 u5 wr=>∃ (i:Nat) (n m:Int),i≤l.length∧u3=.int .i64 n∧u4=.int .i64 m∧u5=.int .i64 (i:Int)∧Hid (Ep (l.drop i) n m=R)∧(-(i:Int)≤n∧n≤i∧0≤m∧m≤i)∧St S M wr) (fun _ _ v _=>l.length - (intOf v).toNat)
 case atStart=>exact ⟨0,0,0,Nat.zero_le _,rfl,rfl,rfl,HR,by omega,hst⟩
 case round =>
  clear hst HR;obtain ⟨i,n,m,hi,rfl,rfl,rfl,HR,hb,hst⟩:=hrel;by_cases hlt:i < l.length
  ·have HN:=HR.out;rw [List.drop_eq_getElem_cons hlt,Qw] at HN;replace HN:=Lib.hid HN;clear HR;unfold VC VD bM eG at HN;obtain ⟨z1,hz1⟩:∃ z,(l[i].1 == 3)=z:=⟨_,rfl⟩
   obtain ⟨z2,hz2⟩:∃ z,decide (l[i].2.1.b=[40])=z:=⟨_,rfl⟩
   obtain ⟨z3,hz3⟩:∃ z,decide (l[i].2.1.b=[123])=z:=⟨_,rfl⟩
   obtain ⟨z4,hz4⟩:∃ z,decide (l[i].2.1.b=[41])=z:=⟨_,rfl⟩
   obtain ⟨z5,hz5⟩:∃ z,decide (l[i].2.1.b=[125])=z:=⟨_,rfl⟩
   rw [hz1,hz2,hz3,hz4,hz5] at HN
   cases z1 with
   | false =>
    repeat' (first|apply sK ()|apply sG ()|(apply gK ();go_step)|(with_reducible refine kC ?_;refine Ag hst (by first|exact Ei Ab Ak Aa|exact EK rfl rfl) ?_<;>(try refine nX ?_))|(apply sN ();intro hI)|(apply sI ();intro v hp)|fail)
    go_roundw
    case rel=>exact ⟨i+1,n,max m n,by omega,rfl,by congr 1,by go_num,HN,by omega,hst⟩
    case measure=>simp [intOf];omega
   | true =>
    have kz:z2=true∨(z2=false∧z3=true)∨(z2=false∧z3=false):=by cases z2<;>cases z3<;>simp
    have kz2:z4=true∨(z4=false∧z5=true)∨(z4=false∧z5=false):=by cases z4<;>cases z5<;>simp
    rcases kz with rfl|⟨rfl,rfl⟩|⟨rfl,rfl⟩
    ·rcases kz2 with rfl|⟨rfl,rfl⟩|⟨rfl,rfl⟩
     ·simp only [Bool.true_and,Bool.true_or,Bool.or_true,Bool.or_self,Bool.false_or,Bool.or_false,if_true,if_false,Bool.false_eq_true] at HN;repeat' ((apply Z8 ());first|(with_reducible refine kB ?_;refine Ag hst (Aw rfl rfl Aa hz2) ?_<;>(try refine nX ?_))|apply sK ()|apply sG ()|(apply gK ();go_step)|(with_reducible refine kL ?_;refine An hst (AL Ab Ak Aa) ?_;rintro v ⟨rfl,hs⟩<;>(try refine nX ?_))|apply sX ()|(apply sN ();intro hI)|(apply sI ();intro v hp)|fail)
      apply il ()
     ·simp only [Bool.true_and,Bool.true_or,Bool.or_true,Bool.or_self,Bool.false_or,Bool.or_false,if_true,if_false,Bool.false_eq_true] at HN;repeat' ((apply Z8 ());first|(with_reducible refine kB ?_;refine Ag hst (Aw rfl rfl Aa hz2) ?_<;>(try refine nX ?_))|apply sK ()|apply sG ()|(apply gK ();go_step)|(with_reducible refine kL ?_;refine An hst (AL Ab Ak Aa) ?_;rintro v ⟨rfl,hs⟩<;>(try refine nX ?_))|apply sX ()|(apply sN ();intro hI)|(apply sI ();intro v hp)|fail)
      apply iw ()
     ·simp only [Bool.true_and,Bool.true_or,Bool.or_true,Bool.or_self,Bool.false_or,Bool.or_false,if_true,if_false,Bool.false_eq_true] at HN;repeat' ((apply Z8 ());first|(with_reducible refine kB ?_;refine Ag hst (Aw rfl rfl Aa hz2) ?_<;>(try refine nX ?_))|apply sK ()|apply sG ()|(apply gK ();go_step)|(with_reducible refine kL ?_;refine An hst (AL Ab Ak Aa) ?_;rintro v ⟨rfl,hs⟩<;>(try refine nX ?_))|apply sX ()|(apply sN ();intro hI)|(apply sI ();intro v hp)|fail)
      apply iq ()
    ·rcases kz2 with rfl|⟨rfl,rfl⟩|⟨rfl,rfl⟩
     ·simp only [Bool.true_and,Bool.true_or,Bool.or_true,Bool.or_self,Bool.false_or,Bool.or_false,if_true,if_false,Bool.false_eq_true] at HN;repeat' ((apply Z8 ());first|(with_reducible refine kB ?_;refine Ag hst (Aw rfl rfl Aa hz2) ?_<;>(try refine nX ?_))|(with_reducible refine kB ?_;refine Ag hst (Aw rfl rfl Aa hz3) ?_<;>(try refine nX ?_))|apply sK ()|apply sG ()|(apply gK ();go_step)|(with_reducible refine kL ?_;refine An hst (AL Ab Ak Aa) ?_;rintro v ⟨rfl,hs⟩<;>(try refine nX ?_))|apply sX ()|(apply sN ();intro hI)|(apply sI ();intro v hp)|fail)
      apply il ()
     ·simp only [Bool.true_and,Bool.true_or,Bool.or_true,Bool.or_self,Bool.false_or,Bool.or_false,if_true,if_false,Bool.false_eq_true] at HN;repeat' ((apply Z8 ());first|(with_reducible refine kB ?_;refine Ag hst (Aw rfl rfl Aa hz2) ?_<;>(try refine nX ?_))|(with_reducible refine kB ?_;refine Ag hst (Aw rfl rfl Aa hz3) ?_<;>(try refine nX ?_))|apply sK ()|apply sG ()|(apply gK ();go_step)|(with_reducible refine kL ?_;refine An hst (AL Ab Ak Aa) ?_;rintro v ⟨rfl,hs⟩<;>(try refine nX ?_))|apply sX ()|(apply sN ();intro hI)|(apply sI ();intro v hp)|fail)
      apply iw ()
     ·simp only [Bool.true_and,Bool.true_or,Bool.or_true,Bool.or_self,Bool.false_or,Bool.or_false,if_true,if_false,Bool.false_eq_true] at HN;repeat' ((apply Z8 ());first|(with_reducible refine kB ?_;refine Ag hst (Aw rfl rfl Aa hz2) ?_<;>(try refine nX ?_))|(with_reducible refine kB ?_;refine Ag hst (Aw rfl rfl Aa hz3) ?_<;>(try refine nX ?_))|apply sK ()|apply sG ()|(apply gK ();go_step)|(with_reducible refine kL ?_;refine An hst (AL Ab Ak Aa) ?_;rintro v ⟨rfl,hs⟩<;>(try refine nX ?_))|apply sX ()|(apply sN ();intro hI)|(apply sI ();intro v hp)|fail)
      apply iq ()
    ·rcases kz2 with rfl|⟨rfl,rfl⟩|⟨rfl,rfl⟩
     ·simp only [Bool.true_and,Bool.true_or,Bool.or_true,Bool.or_self,Bool.false_or,Bool.or_false,if_true,if_false,Bool.false_eq_true] at HN;repeat' ((apply Z8 ());first|(with_reducible refine kB ?_;refine Ag hst (Aw rfl rfl Aa hz2) ?_<;>(try refine nX ?_))|(with_reducible refine kB ?_;refine Ag hst (Aw rfl rfl Aa hz3) ?_<;>(try refine nX ?_))|apply sK ()|apply sG ()|(apply gK ();go_step)|(with_reducible refine kL ?_;refine An hst (AL Ab Ak Aa) ?_;rintro v ⟨rfl,hs⟩<;>(try refine nX ?_))|apply sX ()|(apply sN ();intro hI)|(apply sI ();intro v hp)|fail)
      repeat' (first|(with_reducible refine kB ?_;refine Ag hst (Aw rfl rfl Aa hz4) ?_<;>(try refine nX ?_))|apply sK ()|apply sG ()|(apply gK ();go_step)|(with_reducible refine kL ?_;refine An hst (AL Ab Ak Aa) ?_;rintro v ⟨rfl,hs⟩<;>(try refine nX ?_))|(with_reducible refine kC ?_;refine Ag hst (by exact EK rfl rfl) ?_<;>(try refine nX ?_))|(apply sN ();intro hI)|(apply sI ();intro v hp)|fail)
      apply gJ ()
     ·simp only [Bool.true_and,Bool.true_or,Bool.or_true,Bool.or_self,Bool.false_or,Bool.or_false,if_true,if_false,Bool.false_eq_true] at HN;repeat' ((apply Z8 ());first|(with_reducible refine kB ?_;refine Ag hst (Aw rfl rfl Aa hz2) ?_<;>(try refine nX ?_))|(with_reducible refine kB ?_;refine Ag hst (Aw rfl rfl Aa hz3) ?_<;>(try refine nX ?_))|apply sK ()|apply sG ()|(apply gK ();go_step)|(with_reducible refine kL ?_;refine An hst (AL Ab Ak Aa) ?_;rintro v ⟨rfl,hs⟩<;>(try refine nX ?_))|apply sX ()|(apply sN ();intro hI)|(apply sI ();intro v hp)|fail)
      repeat' (first|(with_reducible refine kB ?_;refine Ag hst (Aw rfl rfl Aa hz4) ?_<;>(try refine nX ?_))|(with_reducible refine kB ?_;refine Ag hst (Aw rfl rfl Aa hz5) ?_<;>(try refine nX ?_))|apply sK ()|apply sG ()|(apply gK ();go_step)|(with_reducible refine kL ?_;refine An hst (AL Ab Ak Aa) ?_;rintro v ⟨rfl,hs⟩<;>(try refine nX ?_))|(with_reducible refine kC ?_;refine Ag hst (by exact EK rfl rfl) ?_<;>(try refine nX ?_))|(apply sN ();intro hI)|(apply sI ();intro v hp)|fail)
      apply gJ ()
     ·simp only [Bool.true_and,Bool.true_or,Bool.or_true,Bool.or_self,Bool.false_or,Bool.or_false,if_true,if_false,Bool.false_eq_true] at HN;repeat' ((apply Z8 ());first|(with_reducible refine kB ?_;refine Ag hst (Aw rfl rfl Aa hz2) ?_<;>(try refine nX ?_))|(with_reducible refine kB ?_;refine Ag hst (Aw rfl rfl Aa hz3) ?_<;>(try refine nX ?_))|apply sK ()|apply sG ()|(apply gK ();go_step)|(with_reducible refine kL ?_;refine An hst (AL Ab Ak Aa) ?_;rintro v ⟨rfl,hs⟩<;>(try refine nX ?_))|apply sX ()|(apply sN ();intro hI)|(apply sI ();intro v hp)|fail)
      repeat' (first|(with_reducible refine kB ?_;refine Ag hst (Aw rfl rfl Aa hz4) ?_<;>(try refine nX ?_))|(with_reducible refine kB ?_;refine Ag hst (Aw rfl rfl Aa hz5) ?_<;>(try refine nX ?_))|apply sK ()|apply sG ()|(apply gK ();go_step)|(with_reducible refine kL ?_;refine An hst (AL Ab Ak Aa) ?_;rintro v ⟨rfl,hs⟩<;>(try refine nX ?_))|(with_reducible refine kC ?_;refine Ag hst (by exact EK rfl rfl) ?_<;>(try refine nX ?_))|(apply sN ();intro hI)|(apply sI ();intro v hp)|fail)
      go_roundw
      case rel=>exact ⟨i+1,n,max m n,by omega,by go_num,by go_num,by go_num,HN,by omega,hst⟩
      case measure=>simp [intOf];omega
  ·have HN:=HR.out;rw [List.drop_of_length_le (by omega),Ep] at HN;replace HN:=Lib.hid HN;clear HR;repeat' (first|(apply gK ();go_step)|apply sX ()|fail)
   go_ret;exact ⟨_,rfl,by rw [HN.out];rfl,hst⟩
end Go.Proofs.YtmmbidoldegemaaGreatDoor
