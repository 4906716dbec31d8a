/- Part 20 of the proof that the law of the last part holds; no conditions. -/
import Derived.Test.YtmmbidoldegemaaGreatDoorZ18
set_option linter.unusedSimpArgs false
set_option linter.unusedVariables false
set_option maxRecDepth 8000
set_option maxHeartbeats 8000000
namespace Go.Proofs.YtmmbidoldegemaaGreatDoor
open Go.RowKit Go.Sl
def GC {α:Type} (tag:Int) (parts:List (List UInt8)) (k:List UInt8→α):α:=SR (UInt8.ofNat tag.toNat::EW parts) fun h=>LJ (h.take 16) k
theorem Yg {α:Type} (tag:Int) (parts:List (List UInt8)) (k:List UInt8→α):GC tag parts k=k (Dq tag parts):=by
 rw [GC,X1,I6];rfl
def FN:Dg:=⟨[9,0,0,0,0,0,0,0,0,0,0,0,0,0,0,0]⟩
end Go.Proofs.YtmmbidoldegemaaGreatDoor
