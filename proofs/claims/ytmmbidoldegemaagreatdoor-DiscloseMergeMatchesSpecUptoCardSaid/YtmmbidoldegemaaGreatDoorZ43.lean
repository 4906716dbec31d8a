/- Part 44 of the proof that the law of the last part holds; no conditions. -/
import Derived.Lib.SliceRun
import Derived.Test.YtmmbidoldegemaaGreatDoorZ15
set_option linter.unusedSimpArgs false
set_option linter.unusedVariables false
set_option maxRecDepth 8000
set_option maxHeartbeats 8000000
namespace Go.Proofs.YtmmbidoldegemaaGreatDoor
open Go.RowKit Go.Sl
theorem FJ {P:Program} {T E T2:TypeId} {l:List Value} {x y:Operand} {S:Ac} {M:List Chunk} {a:Option Addr} {n c n' c':Nat} (hx:Ai l x=.slice a n c) (hy:Ai l y=.slice none n' c') (hT:SlT P T E) :
  Qt P l (.binOp .eql T x y T2) S M (.bool a.isNone):=fun dst ty pos af w hst=>by
 apply eW ()
set_option maxRecDepth 20000 in
theorem Yo {S M} (w:World) (hst:St S M w) (v:Value) (xs:List Pn) (hv:RSl S v xs) (hm:xs.length≤1048576) :
  Ad Tryz.prog 24 [v] w fun u w'=>∃ c,RL S c xs∧St S (.sl u 63 4 xs.length c::M) w':=by
 unfold Ad;have hv':=hv;rcases hv with ⟨ad,cap,rfl,rfl,_⟩|⟨b,o,cap,c,T,fz,rfl,_,_,_,_⟩
 ·cases ad with
  | none =>
   go_enter Tryz.func24,Tryz.ntmps24;repeat' (first|(with_reducible refine kB ?_;refine Ag hst (FJ rfl rfl (by infer_instance)) ?_;simp only [Option.isNone_none,Option.isNone_some];(try refine nY ?_))|(apply gK ();go_step)|fail)
   go_ret;exact ⟨_,rfl,[],RL.nil,hst.nil 63 4⟩
  | some a =>
   go_enter Tryz.func24,Tryz.ntmps24;repeat' (first|(with_reducible refine kB ?_;refine Ag hst (FJ rfl rfl (by infer_instance)) ?_;simp only [Option.isNone_none,Option.isNone_some];(try refine nY ?_))|(apply gK ();go_step)|fail)
   apply b7 ()
 ·go_enter Tryz.func24,Tryz.ntmps24;repeat' (first|(with_reducible refine kB ?_;refine Ag hst (FJ rfl rfl (by infer_instance)) ?_;simp only [Option.isNone_none,Option.isNone_some];(try refine nY ?_))|(apply gK ();go_step)|fail)
  apply b7 ()
set_option maxRecDepth 20000 in
theorem Yq {S M} (w:World) (hst:St S M w) (v:Value) (xs:List Hd) (hv:RSl S v xs) (hm:xs.length≤1048576) :
  Ad Tryz.prog 31 [v] w fun u w'=>∃ c,RL S c xs∧St S (.sl u 59 66 xs.length c::M) w':=by
 unfold Ad;have hv':=hv;rcases hv with ⟨ad,cap,rfl,rfl,_⟩|⟨b,o,cap,c,T,fz,rfl,_,_,_,_⟩
 ·cases ad with
  | none =>
   go_enter Tryz.func31,Tryz.ntmps31;repeat' (first|(with_reducible refine kB ?_;refine Ag hst (FJ rfl rfl (by infer_instance)) ?_;simp only [Option.isNone_none,Option.isNone_some];(try refine nY ?_))|(apply gK ();go_step)|fail)
   go_ret;exact ⟨_,rfl,[],RL.nil,hst.nil 59 66⟩
  | some a =>
   go_enter Tryz.func31,Tryz.ntmps31;repeat' (first|(with_reducible refine kB ?_;refine Ag hst (FJ rfl rfl (by infer_instance)) ?_;simp only [Option.isNone_none,Option.isNone_some];(try refine nY ?_))|(apply gK ();go_step)|fail)
   apply b7 ()
 ·go_enter Tryz.func31,Tryz.ntmps31;repeat' (first|(with_reducible refine kB ?_;refine Ag hst (FJ rfl rfl (by infer_instance)) ?_;simp only [Option.isNone_none,Option.isNone_some];(try refine nY ?_))|(apply gK ();go_step)|fail)
  apply b7 ()
end Go.Proofs.YtmmbidoldegemaaGreatDoor
