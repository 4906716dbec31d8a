/- Part 39 of the proof that the law of the last part holds; no conditions. -/
import Derived.Test.YtmmbidoldegemaaGreatDoorZ37
set_option linter.unusedSimpArgs false
set_option linter.unusedVariables false
set_option maxRecDepth 8000
set_option maxHeartbeats 8000000
namespace Go.Proofs.YtmmbidoldegemaaGreatDoor
open Go.RowKit Go.Sl
def sS (k:Nat):VS:=[(⟨0,[0],[],0,[0,0],[],0,0,false⟩:VS),⟨1,[0],[0],0,[0,0],[],0,1,false⟩,⟨2,[0],[0,1],0,[0,0],[],0,2,false⟩,⟨3,[0],[0],0,[0,0],[],0,3,false⟩,⟨9,[0],[],1,[2,0],[],0,4,false⟩].getD k ⟨10,[0],[],1,[2,0],[],0,5,true⟩
def RcS (s:VS):Prop:=s=sS 0∨s=sS 1∨s=sS 2∨s=sS 3∨s=sS 4∨s=sS 5
theorem sS_0:FT YH [] (sS 0)=.ok (sS 1):=rfl
theorem sS_1:FT YH [] (sS 1)=.ok (sS 2):=rfl
theorem sS_2:FT YH [] (sS 2)=.ok (sS 3):=rfl
theorem sS_3:FT YH [] (sS 3)=.ok (sS 4):=rfl
theorem sS_4:FT YH [] (sS 4)=.ok (sS 5):=rfl
theorem next_s:∀ s,RcS s→s.done=false→∃ s',FT YH [] s=.ok s'∧RcS s':=by
 rintro s (rfl|rfl|rfl|rfl|rfl|rfl) hd
 ·exact ⟨_,sS_0,.inr (.inl rfl)⟩
 ·exact ⟨_,sS_1,.inr (.inr (.inl rfl))⟩
 ·exact ⟨_,sS_2,.inr (.inr (.inr (.inl rfl)))⟩
 ·exact ⟨_,sS_3,.inr (.inr (.inr (.inr (.inl rfl))))⟩
 ·exact ⟨_,sS_4,.inr (.inr (.inr (.inr (.inr rfl))))⟩
 ·cases hd
theorem step_s:Ny RcS YH []:=by
 intro S M vi vg s vv vs vp vn w hst hvi hvm hvv hvs hvp hvn gd ⟨hrc,hd⟩ hgl hgm h4 h8;rcases hrc with rfl|rfl|rfl|rfl|rfl|rfl
 ·rw [sS_0];exact step_2 w hst hvi hvm hvv hvs hvp hvn (by decide) (by decide) (by decide) gd (a:=0) (b:=0) (u:=()) rfl (by decide) (by decide) (by decide)
 ·rw [sS_1];exact step_1 w hst hvi hvm hvv hvs hvp hvn (by decide) (by decide) (by decide) gd (a:=1) (b:=0) (u:=()) rfl (by decide)
 ·rw [sS_2];exact step_bin w hst hvi hvm hvv hvs hvp hvn (by decide) (by decide) (by decide) gd (n:=8) (a:=0) (b:=0) (u:=()) rfl (by decide) (by decide) (by decide)
 ·rw [sS_3];exact step_12m w hst hvi hvm hvv hvs hvp hvn (by decide) (by decide) (by decide) gd (a:=9) (b:=0) (u:=()) rfl hgl hgm (by decide) (by decide) (by decide) (by decide) (by decide) rfl rfl
 ·rw [sS_4];exact step_16 w hst hvi hvm hvv hvs hvp hvn (by decide) (by decide) (by decide) gd (a:=0) (b:=0) (u:=()) rfl
 ·cases hd
end Go.Proofs.YtmmbidoldegemaaGreatDoor
