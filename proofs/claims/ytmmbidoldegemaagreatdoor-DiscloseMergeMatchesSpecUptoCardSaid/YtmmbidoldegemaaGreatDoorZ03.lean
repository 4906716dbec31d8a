/- Part 4 of the proof that the law of the last part holds; no conditions. -/
import Derived.Test.YtmmbidoldegemaaGreatDoorRows
import Derived.Deep.LoopGhost
import Derived.WalkMore
import Derived.Test.YtmmbidoldegemaaGreatDoorZ02
set_option linter.unusedSimpArgs false
set_option linter.unusedVariables false
set_option maxRecDepth 8000
set_option maxHeartbeats 8000000
namespace Go.Proofs.YtmmbidoldegemaaGreatDoor
open Go.RowKit Go.Sl
instance ty3:Ty Tryz.prog 3 false 1 [.int .i64 0] 8:=⟨kr,kr,rfl,rfl,rfl,by simp⟩
instance oF:IntT Tryz.prog 3 .i64:=⟨kr⟩
instance qJ:Ty Tryz.prog 4 false 1 [.bool false] 1:=⟨kr,kr,rfl,rfl,rfl,by simp⟩
instance qI:Ty Tryz.prog 5 false 1 [.int .u8 0] 1:=⟨kr,kr,rfl,rfl,rfl,by simp⟩
instance oE:IntT Tryz.prog 5 .u8:=⟨kr⟩
instance qH:Ty Tryz.prog 9 false 1 [.string ByteArray.empty] 16:=⟨kr,kr,rfl,rfl,rfl,by simp⟩
instance iR:Ty Tryz.prog 23 true 16 [.int .u8 0,.int .u8 0,.int .u8 0,.int .u8 0,.int .u8 0,.int .u8 0,.int .u8 0,.int .u8 0,.int .u8 0,.int .u8 0,.int .u8 0,.int .u8 0,.int .u8 0,.int .u8 0,.int .u8 0,.int .u8 0] 16:=⟨kr,kr,rfl,rfl,rfl,by simp⟩
instance fW:ArrT Tryz.prog 23 16 5:=⟨kr⟩
instance og:Ty Tryz.prog 24 false 1 [.slice none 0 0] 24:=⟨kr,kr,rfl,rfl,rfl,by simp⟩
instance iZ:SlT Tryz.prog 24 59:=⟨kr⟩
instance oe:Ty Tryz.prog 25 false 1 [.slice none 0 0] 24:=⟨kr,kr,rfl,rfl,rfl,by simp⟩
instance iY:SlT Tryz.prog 25 63:=⟨kr⟩
instance od:Ty Tryz.prog 27 true 18 [.int .u8 0,.int .u8 0,.int .u8 0,.int .u8 0,.int .u8 0,.int .u8 0,.int .u8 0,.int .u8 0,.int .u8 0,.int .u8 0,.int .u8 0,.int .u8 0,.int .u8 0,.int .u8 0,.int .u8 0,.int .u8 0,.slice none 0 0,.slice none 0 0] 64:=⟨kr,kr,rfl,rfl,rfl,by simp⟩
instance kT:FldT Tryz.prog 27 0 0:=⟨kr⟩
instance kR:FldT Tryz.prog 27 1 16:=⟨kr⟩
instance kQ:FldT Tryz.prog 27 2 17:=⟨kr⟩
instance mf:StructT Tryz.prog 27 [(0,16),(16,1),(17,1)]:=⟨kr⟩
instance oc:Ty Tryz.prog 28 false 1 [.slice none 0 0] 24:=⟨kr,kr,rfl,rfl,rfl,by simp⟩
instance iX:SlT Tryz.prog 28 57:=⟨kr⟩
instance n9:Ty Tryz.prog 31 false 1 [.int .i64 0] 8:=⟨kr,kr,rfl,rfl,rfl,by simp⟩
instance ow:SlT Tryz.prog 37 67:=⟨kr⟩
instance n5:Ty Tryz.prog 38 false 1 [.int .u32 0] 4:=⟨kr,kr,rfl,rfl,rfl,by simp⟩
instance mu:IntT Tryz.prog 38 .u32:=⟨kr⟩
instance ov:SlT Tryz.prog 39 87:=⟨kr⟩
instance nW:Ty Tryz.prog 40 false 1 [.slice none 0 0] 24:=⟨kr,kr,rfl,rfl,rfl,by simp⟩
instance ou:SlT Tryz.prog 40 54:=⟨kr⟩
instance ot:SlT Tryz.prog 45 52:=⟨kr⟩
instance nV:Ty Tryz.prog 50 true 32 [.int .u8 0,.int .u8 0,.int .u8 0,.int .u8 0,.int .u8 0,.int .u8 0,.int .u8 0,.int .u8 0,.int .u8 0,.int .u8 0,.int .u8 0,.int .u8 0,.int .u8 0,.int .u8 0,.int .u8 0,.int .u8 0,.int .u8 0,.int .u8 0,.int .u8 0,.int .u8 0,.int .u8 0,.int .u8 0,.int .u8 0,.int .u8 0,.int .u8 0,.int .u8 0,.int .u8 0,.int .u8 0,.int .u8 0,.int .u8 0,.int .u8 0,.int .u8 0] 32:=⟨kr,kr,rfl,rfl,rfl,by simp⟩
instance kN:FldT Tryz.prog 50 0 0:=⟨kr⟩
instance kM:FldT Tryz.prog 50 1 16:=⟨kr⟩
instance me:StructT Tryz.prog 50 [(0,16),(16,16)]:=⟨kr⟩
instance nU:Ty Tryz.prog 52 false 1 [.slice none 0 0] 24:=⟨kr,kr,rfl,rfl,rfl,by simp⟩
instance oq:SlT Tryz.prog 52 3:=⟨kr⟩
instance nT:Ty Tryz.prog 54 true 20 [.int .u8 0,.int .u8 0,.int .u8 0,.int .u8 0,.int .u8 0,.int .u8 0,.int .u8 0,.int .u8 0,.int .u8 0,.int .u8 0,.int .u8 0,.int .u8 0,.int .u8 0,.int .u8 0,.int .u8 0,.int .u8 0,.slice none 0 0,.slice none 0 0,.slice none 0 0,.int .i64 0] 96:=⟨kr,kr,rfl,rfl,rfl,by simp⟩
instance kK:FldT Tryz.prog 54 0 0:=⟨kr⟩
instance kJ:FldT Tryz.prog 54 1 16:=⟨kr⟩
instance kH:FldT Tryz.prog 54 2 17:=⟨kr⟩
instance kG:FldT Tryz.prog 54 3 18:=⟨kr⟩
instance kE:FldT Tryz.prog 54 4 19:=⟨kr⟩
instance iQ:Ty Tryz.prog 57 true 2 [.int .i64 0,.int .i64 0] 16:=⟨kr,kr,rfl,rfl,rfl,by simp⟩
instance nI:ArrT Tryz.prog 57 2 3:=⟨kr⟩
instance iP:Ty Tryz.prog 59 true 66 [.int .u8 0,.int .u8 0,.int .u8 0,.int .u8 0,.int .u8 0,.int .u8 0,.int .u8 0,.int .u8 0,.int .u8 0,.int .u8 0,.int .u8 0,.int .u8 0,.int .u8 0,.int .u8 0,.int .u8 0,.int .u8 0,.int .u8 0,.int .u8 0,.int .u8 0,.int .u8 0,.int .u8 0,.int .u8 0,.int .u8 0,.int .u8 0,.int .u8 0,.int .u8 0,.int .u8 0,.int .u8 0,.int .u8 0,.int .u8 0,.int .u8 0,.int .u8 0,.int .i64 0,.int .u8 0,.int .u8 0,.int .u8 0,.int .u8 0,.int .u8 0,.int .u8 0,.int .u8 0,.int .u8 0,.int .u8 0,.int .u8 0,.int .u8 0,.int .u8 0,.int .u8 0,.int .u8 0,.int .u8 0,.int .u8 0,.int .u8 0,.int .u8 0,.int .u8 0,.int .u8 0,.int .u8 0,.int .u8 0,.int .u8 0,.int .u8 0,.int .u8 0,.int .u8 0,.int .u8 0,.int .u8 0,.int .u8 0,.int .u8 0,.int .u8 0,.int .u8 0,.int .i64 0] 80:=⟨kr,kr,rfl,rfl,rfl,by simp⟩
instance kD:FldT Tryz.prog 59 0 0:=⟨kr⟩
instance ky:FldT Tryz.prog 59 1 16:=⟨kr⟩
instance kx:FldT Tryz.prog 59 2 32:=⟨kr⟩
instance kw:FldT Tryz.prog 59 3 33:=⟨kr⟩
instance ku:FldT Tryz.prog 59 4 49:=⟨kr⟩
instance kt:FldT Tryz.prog 59 5 65:=⟨kr⟩
instance mc:StructT Tryz.prog 59 [(0,16),(16,16),(32,1),(33,16),(49,16),(65,1)]:=⟨kr⟩
instance nS:Ty Tryz.prog 61 false 1 [.slice none 0 0] 24:=⟨kr,kr,rfl,rfl,rfl,by simp⟩
instance iW:SlT Tryz.prog 61 23:=⟨kr⟩
instance iO:Ty Tryz.prog 63 true 4 [.int .i64 0,.int .i64 0,.int .i64 0,.slice none 0 0] 48:=⟨kr,kr,rfl,rfl,rfl,by simp⟩
instance kq:FldT Tryz.prog 63 0 0:=⟨kr⟩
instance kp:FldT Tryz.prog 63 1 1:=⟨kr⟩
instance kn:FldT Tryz.prog 63 2 2:=⟨kr⟩
instance kj:FldT Tryz.prog 63 3 3:=⟨kr⟩
instance ma:StructT Tryz.prog 63 [(0,1),(1,1),(2,1),(3,1)]:=⟨kr⟩
instance nR:Ty Tryz.prog 65 false 1 [.slice none 0 0] 24:=⟨kr,kr,rfl,rfl,rfl,by simp⟩
instance oo:SlT Tryz.prog 65 5:=⟨kr⟩
instance nQ:Ty Tryz.prog 67 true 2 [.string ByteArray.empty,.slice none 0 0] 40:=⟨kr,kr,rfl,rfl,rfl,by simp⟩
instance kg:FldT Tryz.prog 67 0 0:=⟨kr⟩
instance ke:FldT Tryz.prog 67 1 1:=⟨kr⟩
instance l9:StructT Tryz.prog 67 [(0,1),(1,1)]:=⟨kr⟩
instance nP:Ty Tryz.prog 84 false 1 [.slice none 0 0] 24:=⟨kr,kr,rfl,rfl,rfl,by simp⟩
instance om:SlT Tryz.prog 84 97:=⟨kr⟩
instance nO:Ty Tryz.prog 85 false 1 [.slice none 0 0] 24:=⟨kr,kr,rfl,rfl,rfl,by simp⟩
instance ol:SlT Tryz.prog 85 139:=⟨kr⟩
instance nN:Ty Tryz.prog 87 true 4 [.slice none 0 0,.slice none 0 0,.int .i64 0,.int .i64 0] 64:=⟨kr,kr,rfl,rfl,rfl,by simp⟩
instance j9:FldT Tryz.prog 87 0 0:=⟨kr⟩
instance j8:FldT Tryz.prog 87 1 1:=⟨kr⟩
instance j7:FldT Tryz.prog 87 2 2:=⟨kr⟩
instance j6:FldT Tryz.prog 87 3 3:=⟨kr⟩
instance nM:Ty Tryz.prog 90 false 1 [.slice none 0 0] 24:=⟨kr,kr,rfl,rfl,rfl,by simp⟩
instance oh:SlT Tryz.prog 90 186:=⟨kr⟩
instance nL:Ty Tryz.prog 92 true 3 [.slice none 0 0,.int .i64 0,.int .i64 0] 40:=⟨kr,kr,rfl,rfl,rfl,by simp⟩
instance j5:FldT Tryz.prog 92 0 0:=⟨kr⟩
instance j4:FldT Tryz.prog 92 1 1:=⟨kr⟩
instance j3:FldT Tryz.prog 92 2 2:=⟨kr⟩
instance l8:StructT Tryz.prog 92 [(0,1),(1,1),(2,1)]:=⟨kr⟩
instance nK:Ty Tryz.prog 97 true 4 [.string ByteArray.empty,.int .i64 0,.int .i64 0,.int .i64 0] 40:=⟨kr,kr,rfl,rfl,rfl,by simp⟩
instance jZ:FldT Tryz.prog 97 0 0:=⟨kr⟩
instance jY:FldT Tryz.prog 97 1 1:=⟨kr⟩
instance jX:FldT Tryz.prog 97 2 2:=⟨kr⟩
instance jW:FldT Tryz.prog 97 3 3:=⟨kr⟩
instance nJ:Ty Tryz.prog 99 true 4 [.slice none 0 0,.slice none 0 0,.int .i64 0,.int .i64 0] 64:=⟨kr,kr,rfl,rfl,rfl,by simp⟩
instance jV:FldT Tryz.prog 99 0 0:=⟨kr⟩
instance jU:FldT Tryz.prog 99 1 1:=⟨kr⟩
instance jT:FldT Tryz.prog 99 2 2:=⟨kr⟩
instance jS:FldT Tryz.prog 99 3 3:=⟨kr⟩
instance l6:Ty Tryz.prog 105 true 2 [.int .i64 0,.int .i64 0] 16:=⟨kr,kr,rfl,rfl,rfl,by simp⟩
instance jJ:FldT Tryz.prog 105 0 0:=⟨kr⟩
instance jI:FldT Tryz.prog 105 1 1:=⟨kr⟩
instance kZ:StructT Tryz.prog 105 [(0,1),(1,1)]:=⟨kr⟩
instance lq:IntT Tryz.prog 113 .u64:=⟨kr⟩
instance l5:Ty Tryz.prog 127 false 1 [.slice none 0 0] 24:=⟨kr,kr,rfl,rfl,rfl,by simp⟩
instance ml:SlT Tryz.prog 127 175:=⟨kr⟩
instance l4:Ty Tryz.prog 132 true 6 [.slice none 0 0,.int .i64 0,.slice none 0 0,.slice none 0 0,.int .i64 0,.int .i64 0] 96:=⟨kr,kr,rfl,rfl,rfl,by simp⟩
instance jH:FldT Tryz.prog 132 0 0:=⟨kr⟩
instance jG:FldT Tryz.prog 132 1 1:=⟨kr⟩
instance jF:FldT Tryz.prog 132 2 2:=⟨kr⟩
instance lZ:Ty Tryz.prog 139 true 4 [.int .i64 0,.int .i64 0,.string ByteArray.empty,.slice none 0 0] 56:=⟨kr,kr,rfl,rfl,rfl,by simp⟩
instance jE:FldT Tryz.prog 139 0 0:=⟨kr⟩
instance jD:FldT Tryz.prog 139 1 1:=⟨kr⟩
instance jC:FldT Tryz.prog 139 2 2:=⟨kr⟩
instance jB:FldT Tryz.prog 139 3 3:=⟨kr⟩
instance lY:Ty Tryz.prog 148 true 10 [.int .i64 0,.slice none 0 0,.slice none 0 0,.slice none 0 0,.slice none 0 0,.int .i64 0,.int .i64 0,.int .i64 0,.bool false,.int .i64 0] 144:=⟨kr,kr,rfl,rfl,rfl,by simp⟩
instance jA:FldT Tryz.prog 148 0 0:=⟨kr⟩
instance jz:FldT Tryz.prog 148 1 1:=⟨kr⟩
instance jy:FldT Tryz.prog 148 2 2:=⟨kr⟩
instance jx:FldT Tryz.prog 148 3 3:=⟨kr⟩
instance jw:FldT Tryz.prog 148 4 7:=⟨kr⟩
instance jv:FldT Tryz.prog 148 5 8:=⟨kr⟩
instance ju:FldT Tryz.prog 148 6 9:=⟨kr⟩
instance lX:Ty Tryz.prog 154 false 1 [.nilFunc] 8:=⟨kr,kr,rfl,rfl,rfl,by simp⟩
instance lW:Ty Tryz.prog 155 false 1 [.nilFunc] 8:=⟨kr,kr,rfl,rfl,rfl,by simp⟩
instance lV:Ty Tryz.prog 156 false 1 [.map none] 8:=⟨kr,kr,rfl,rfl,rfl,by simp⟩
instance lU:Ty Tryz.prog 157 false 1 [.nilFunc] 8:=⟨kr,kr,rfl,rfl,rfl,by simp⟩
instance lT:Ty Tryz.prog 175 true 4 [.int .i64 0,.string ByteArray.empty,.int .i64 0,.int .i64 0] 40:=⟨kr,kr,rfl,rfl,rfl,by simp⟩
instance jt:FldT Tryz.prog 175 0 0:=⟨kr⟩
instance js:FldT Tryz.prog 175 1 1:=⟨kr⟩
instance jr:FldT Tryz.prog 175 2 2:=⟨kr⟩
instance mj:SlT Tryz.prog 180 9:=⟨kr⟩
instance lS:Ty Tryz.prog 186 true 3 [.int .i64 0,.int .i64 0,.int .i64 0] 24:=⟨kr,kr,rfl,rfl,rfl,by simp⟩
instance jq:FldT Tryz.prog 186 0 0:=⟨kr⟩
instance jp:FldT Tryz.prog 186 1 1:=⟨kr⟩
instance jo:FldT Tryz.prog 186 2 2:=⟨kr⟩
instance lR:Ty Tryz.prog 188 true 3 [.int .i64 0,.int .i64 0,.bool false] 24:=⟨kr,kr,rfl,rfl,rfl,by simp⟩
instance jn:FldT Tryz.prog 188 0 0:=⟨kr⟩
instance jm:FldT Tryz.prog 188 1 1:=⟨kr⟩
instance jl:FldT Tryz.prog 188 2 2:=⟨kr⟩
instance mi:SlT Tryz.prog 197 65:=⟨kr⟩
instance lQ:Ty Tryz.prog 199 true 32 [.int .u8 0,.int .u8 0,.int .u8 0,.int .u8 0,.int .u8 0,.int .u8 0,.int .u8 0,.int .u8 0,.int .u8 0,.int .u8 0,.int .u8 0,.int .u8 0,.int .u8 0,.int .u8 0,.int .u8 0,.int .u8 0,.int .u8 0,.int .u8 0,.int .u8 0,.int .u8 0,.int .u8 0,.int .u8 0,.int .u8 0,.int .u8 0,.int .u8 0,.int .u8 0,.int .u8 0,.int .u8 0,.int .u8 0,.int .u8 0,.int .u8 0,.int .u8 0] 32:=⟨kr,kr,rfl,rfl,rfl,by simp⟩
instance lE:ArrT Tryz.prog 199 32 5:=⟨kr⟩
instance lP:Ty Tryz.prog 204 false 1 [.slice none 0 0] 24:=⟨kr,kr,rfl,rfl,rfl,by simp⟩
instance mh:SlT Tryz.prog 204 4:=⟨kr⟩
instance lp:IntT Tryz.prog 207 .u64:=⟨kr⟩
instance lO:Ty Tryz.prog 211 false 1 [.nilFunc] 8:=⟨kr,kr,rfl,rfl,rfl,by simp⟩
instance mg:SlT Tryz.prog 215 90:=⟨kr⟩
instance lN:Ty Tryz.prog 220 true 8 [.int .u32 0,.int .u32 0,.int .u32 0,.int .u32 0,.int .u32 0,.int .u32 0,.int .u32 0,.int .u32 0] 32:=⟨kr,kr,rfl,rfl,rfl,by simp⟩
instance lD:ArrT Tryz.prog 220 8 38:=⟨kr⟩
instance lM:Ty Tryz.prog 221 false 1 [.nilFunc] 8:=⟨kr,kr,rfl,rfl,rfl,by simp⟩
instance lL:Ty Tryz.prog 228 true 64 [.int .u32 0,.int .u32 0,.int .u32 0,.int .u32 0,.int .u32 0,.int .u32 0,.int .u32 0,.int .u32 0,.int .u32 0,.int .u32 0,.int .u32 0,.int .u32 0,.int .u32 0,.int .u32 0,.int .u32 0,.int .u32 0,.int .u32 0,.int .u32 0,.int .u32 0,.int .u32 0,.int .u32 0,.int .u32 0,.int .u32 0,.int .u32 0,.int .u32 0,.int .u32 0,.int .u32 0,.int .u32 0,.int .u32 0,.int .u32 0,.int .u32 0,.int .u32 0,.int .u32 0,.int .u32 0,.int .u32 0,.int .u32 0,.int .u32 0,.int .u32 0,.int .u32 0,.int .u32 0,.int .u32 0,.int .u32 0,.int .u32 0,.int .u32 0,.int .u32 0,.int .u32 0,.int .u32 0,.int .u32 0,.int .u32 0,.int .u32 0,.int .u32 0,.int .u32 0,.int .u32 0,.int .u32 0,.int .u32 0,.int .u32 0,.int .u32 0,.int .u32 0,.int .u32 0,.int .u32 0,.int .u32 0,.int .u32 0,.int .u32 0,.int .u32 0] 256:=⟨kr,kr,rfl,rfl,rfl,by simp⟩
instance lC:ArrT Tryz.prog 228 64 38:=⟨kr⟩
instance qO:Body Tryz.prog 8:=⟨kr⟩
instance qN:Body Tryz.prog 9:=⟨kr⟩
instance qG:Body Tryz.prog 10:=⟨kr⟩
instance qF:Body Tryz.prog 11:=⟨kr⟩
instance qE:Body Tryz.prog 12:=⟨kr⟩
instance qD:Body Tryz.prog 13:=⟨kr⟩
instance qC:Body Tryz.prog 14:=⟨kr⟩
instance qB:Body Tryz.prog 15:=⟨kr⟩
instance qA:Body Tryz.prog 16:=⟨kr⟩
instance qz:Body Tryz.prog 18:=⟨kr⟩
instance qy:Body Tryz.prog 19:=⟨kr⟩
instance qx:Body Tryz.prog 20:=⟨kr⟩
instance qw:Body Tryz.prog 21:=⟨kr⟩
instance qv:Body Tryz.prog 22:=⟨kr⟩
instance qu:Body Tryz.prog 23:=⟨kr⟩
instance qr:Body Tryz.prog 24:=⟨kr⟩
instance qq:Body Tryz.prog 25:=⟨kr⟩
instance qp:Body Tryz.prog 26:=⟨kr⟩
instance qm:Body Tryz.prog 27:=⟨kr⟩
instance ql:Body Tryz.prog 28:=⟨kr⟩
instance qk:Body Tryz.prog 29:=⟨kr⟩
instance qj:Body Tryz.prog 30:=⟨kr⟩
instance qi:Body Tryz.prog 31:=⟨kr⟩
instance qh:Body Tryz.prog 32:=⟨kr⟩
instance qg:Body Tryz.prog 33:=⟨kr⟩
instance qf:Body Tryz.prog 34:=⟨kr⟩
instance qe:Body Tryz.prog 35:=⟨kr⟩
instance qd:Body Tryz.prog 36:=⟨kr⟩
instance qb:Body Tryz.prog 37:=⟨kr⟩
instance p9:Body Tryz.prog 38:=⟨kr⟩
instance p8:Body Tryz.prog 39:=⟨kr⟩
instance p7:Body Tryz.prog 40:=⟨kr⟩
instance p6:Body Tryz.prog 41:=⟨kr⟩
instance p5:Body Tryz.prog 42:=⟨kr⟩
instance p4:Body Tryz.prog 43:=⟨kr⟩
instance pZ:Body Tryz.prog 44:=⟨kr⟩
instance pW:Body Tryz.prog 45:=⟨kr⟩
instance pU:Body Tryz.prog 46:=⟨kr⟩
instance pT:Body Tryz.prog 47:=⟨kr⟩
instance pS:Body Tryz.prog 48:=⟨kr⟩
instance pO:Body Tryz.prog 49:=⟨kr⟩
instance pM:Body Tryz.prog 50:=⟨kr⟩
instance pK:Body Tryz.prog 51:=⟨kr⟩
instance pJ:Body Tryz.prog 52:=⟨kr⟩
instance pI:Body Tryz.prog 53:=⟨kr⟩
instance pG:Body Tryz.prog 54:=⟨kr⟩
instance pF:Body Tryz.prog 55:=⟨kr⟩
instance pD:Body Tryz.prog 56:=⟨kr⟩
instance pC:Body Tryz.prog 57:=⟨kr⟩
instance py:Body Tryz.prog 58:=⟨kr⟩
instance pw:Body Tryz.prog 59:=⟨kr⟩
instance pv:Body Tryz.prog 60:=⟨kr⟩
instance pu:Body Tryz.prog 61:=⟨kr⟩
instance pr:Body Tryz.prog 62:=⟨kr⟩
instance pq:Body Tryz.prog 63:=⟨kr⟩
instance pm:Body Tryz.prog 64:=⟨kr⟩
instance pl:Body Tryz.prog 65:=⟨kr⟩
instance pk:Body Tryz.prog 66:=⟨kr⟩
instance pj:Body Tryz.prog 67:=⟨kr⟩
instance pi:Body Tryz.prog 68:=⟨kr⟩
instance ph:Body Tryz.prog 69:=⟨kr⟩
instance pf:Body Tryz.prog 70:=⟨kr⟩
instance pb:Body Tryz.prog 71:=⟨kr⟩
instance o9:Body Tryz.prog 72:=⟨kr⟩
instance o8:Body Tryz.prog 73:=⟨kr⟩
instance o7:Body Tryz.prog 74:=⟨kr⟩
instance o6:Body Tryz.prog 75:=⟨kr⟩
instance o5:Body Tryz.prog 76:=⟨kr⟩
instance o4:Body Tryz.prog 77:=⟨kr⟩
instance o3:Body Tryz.prog 78:=⟨kr⟩
instance o2:Body Tryz.prog 79:=⟨kr⟩
instance oZ:Body Tryz.prog 80:=⟨kr⟩
instance oY:Body Tryz.prog 81:=⟨kr⟩
instance oX:Body Tryz.prog 82:=⟨kr⟩
instance oW:Body Tryz.prog 83:=⟨kr⟩
instance oV:Body Tryz.prog 84:=⟨kr⟩
instance oU:Body Tryz.prog 85:=⟨kr⟩
instance oT:Body Tryz.prog 86:=⟨kr⟩
instance oS:Body Tryz.prog 87:=⟨kr⟩
instance oR:Body Tryz.prog 88:=⟨kr⟩
instance oQ:Body Tryz.prog 89:=⟨kr⟩
instance oP:Body Tryz.prog 90:=⟨kr⟩
instance oO:Body Tryz.prog 91:=⟨kr⟩
instance oN:Body Tryz.prog 92:=⟨kr⟩
instance oM:Body Tryz.prog 93:=⟨kr⟩
instance oL:Body Tryz.prog 94:=⟨kr⟩
instance oK:Body Tryz.prog 95:=⟨kr⟩
instance oJ:Body Tryz.prog 96:=⟨kr⟩
instance oI:Body Tryz.prog 97:=⟨kr⟩
instance oH:Body Tryz.prog 98:=⟨kr⟩
instance oG:Body Tryz.prog 99:=⟨kr⟩
instance nE:Body Tryz.prog 100:=⟨kr⟩
instance nD:Body Tryz.prog 101:=⟨kr⟩
instance nC:Body Tryz.prog 102:=⟨kr⟩
instance nB:Body Tryz.prog 103:=⟨kr⟩
instance nA:Body Tryz.prog 104:=⟨kr⟩
instance nz:Body Tryz.prog 105:=⟨kr⟩
instance ny:Body Tryz.prog 106:=⟨kr⟩
instance nw:Body Tryz.prog 107:=⟨kr⟩
instance nu:Body Tryz.prog 108:=⟨kr⟩
instance nt:Body Tryz.prog 109:=⟨kr⟩
instance nr:Body Tryz.prog 110:=⟨kr⟩
instance nq:Body Tryz.prog 111:=⟨kr⟩
instance nm:Body Tryz.prog 112:=⟨kr⟩
instance nk:Body Tryz.prog 113:=⟨kr⟩
instance nf:Body Tryz.prog 114:=⟨kr⟩
instance ne:Body Tryz.prog 115:=⟨kr⟩
instance nc:Body Tryz.prog 116:=⟨kr⟩
instance nb:Body Tryz.prog 117:=⟨kr⟩
instance m9:Body Tryz.prog 118:=⟨kr⟩
instance m8:Body Tryz.prog 119:=⟨kr⟩
instance mZ:Body Tryz.prog 120:=⟨kr⟩
instance mY:Body Tryz.prog 121:=⟨kr⟩
instance mX:Body Tryz.prog 122:=⟨kr⟩
instance mW:Body Tryz.prog 123:=⟨kr⟩
instance mV:Body Tryz.prog 124:=⟨kr⟩
instance mU:Body Tryz.prog 125:=⟨kr⟩
instance mT:Body Tryz.prog 127:=⟨kr⟩
instance mS:Body Tryz.prog 128:=⟨kr⟩
instance mR:Body Tryz.prog 129:=⟨kr⟩
instance mQ:Body Tryz.prog 130:=⟨kr⟩
instance mP:Body Tryz.prog 131:=⟨kr⟩
instance mO:Body Tryz.prog 132:=⟨kr⟩
instance mN:Body Tryz.prog 133:=⟨kr⟩
instance mM:Body Tryz.prog 134:=⟨kr⟩
instance mL:Body Tryz.prog 135:=⟨kr⟩
instance mK:Body Tryz.prog 136:=⟨kr⟩
instance mJ:Body Tryz.prog 137:=⟨kr⟩
instance mI:Body Tryz.prog 138:=⟨kr⟩
instance mH:Body Tryz.prog 139:=⟨kr⟩
instance mG:Body Tryz.prog 140:=⟨kr⟩
instance mF:Body Tryz.prog 141:=⟨kr⟩
instance mE:Body Tryz.prog 142:=⟨kr⟩
instance mD:Body Tryz.prog 143:=⟨kr⟩
instance mC:Body Tryz.prog 144:=⟨kr⟩
instance mB:Body Tryz.prog 145:=⟨kr⟩
instance mA:Body Tryz.prog 146:=⟨kr⟩
instance mz:Body Tryz.prog 147:=⟨kr⟩
instance my:Body Tryz.prog 148:=⟨kr⟩
instance mw:Body Tryz.prog 149:=⟨kr⟩
def LW (n:Int):Nat:=if 0≤n then (2 * n).toNat else (-2 * n - 1).toNat
def Id:Nat→Nat→List UInt8
 | 0,_=>[]
 | f+1,u=>if u < 128 then [UInt8.ofNat u] else UInt8.ofNat (128+u % 128)::Id f (u / 128)
def Bm (n:Int):List UInt8:=Id 10 (LW n)
theorem Y4 {n:Int} (h:0≤n) (hn:Au n):IntKind.u64.wrap (2 * IntKind.u64.wrap n)=(LW n:Nat):=by
 unfold Au at hn;simp only [LW,if_pos h,IntKind.wrap,IntKind.bits,IntKind.signed];simp;omega
theorem Tl {x:Int} (h0:0≤x) (h1:x < 18446744073709551616):bits .xor .u64 (if IntKind.u64.signed=true then -1 else IntKind.u64.max) x=18446744073709551615 - x:=by
 have e:BitVec.ofInt 64 18446744073709551615=BitVec.allOnes 64:=by decide
 show IntKind.u64.wrap ((BitVec.ofInt 64 18446744073709551615 ^^^ BitVec.ofInt 64 x).toNat:Int)=_;rw [e,BitVec.allOnes_xor,BitVec.toNat_not,BitVec.toNat_ofInt];simp only [IntKind.wrap,IntKind.bits,IntKind.signed];simp;omega
theorem We {n:Int} (h:0≤n) (hn:Au n):IntKind.u64.wrap (IntKind.u64.wrap n * 2)=(LW n:Nat):=by
 rw [Int.mul_comm];exact Y4 h hn
theorem Y5 {n:Int} (h:n < 0) (hn:Au n):bits .xor .u64 (if IntKind.u64.signed=true then -1 else IntKind.u64.max) (IntKind.u64.wrap (IntKind.u64.wrap n * 2))=(LW n:Nat):=by
 have hx:IntKind.u64.wrap (IntKind.u64.wrap n * 2)=2 * n+18446744073709551616:=by
  unfold Au at hn;simp only [IntKind.wrap,IntKind.bits,IntKind.signed];simp;omega
 unfold Au at hn;rw [hx,Tl (by omega) (by omega),LW,if_neg (by omega)];omega
theorem bw {n:Int} (hn:Au n):LW n < 18446744073709551616:=by
 unfold Au at hn;unfold LW;split<;>omega
theorem fH:18446744073709551616 < 128 ^ 10:=by simp
theorem fK:∀ x < 256,bits .or .u8 ((x:Nat):Int) 128=((128+x % 128:Nat):Int):=by decide +kernel
theorem Wm {x:Nat} (h:x < 128):((UInt8.ofNat x).toNat:Int)=x:=by
 rw [UInt8.toNat_ofNat'];omega
theorem ZM (x:Nat):bits .or .u8 ((x:Int) % 256) 128=((UInt8.ofNat (128+x % 128)).toNat:Int):=by
 have h:=fK (x % 256) (Nat.mod_lt _ (by decide));rw [UInt8.toNat_ofNat'];rw [show ((x:Int) % 256)=((x % 256:Nat):Int) from by omega,h];omega
theorem Ye {f u:Nat} (h:u < 128):Id (f+1) u=[UInt8.ofNat u]:=by rw [Id,if_pos h]
theorem Vx {f u:Nat} (h:¬ u < 128):Id (f+1) u=UInt8.ofNat (128+u % 128)::Id f (u / 128):=by rw [Id,if_neg h]
theorem Ov {S M} (w:World) (hst:St S M w) (n:Int) (hn:Au n) :
  Ad Tryz.prog 91 [.int .i64 n] w fun v w'=>St S (.sl v 5 1 (Bm n).length (u8s (Bm n))::M) w':=by
 unfold Ad;by_cases h:0≤n
 ·have hz':=Lib.hid (We h hn);go_enter Tryz.func91,Tryz.ntmps91;apply b5 ()
 ·have hz':=Lib.hid (Y5 (by omega) hn);go_enter Tryz.func91,Tryz.ntmps91;apply b5 ()
abbrev Dg:=Ge UInt8 16
def Kv (b:List UInt8):List UInt8:=Bm b.length++b
def Ku (l:List Int):List UInt8:=Bm l.length++l.flatMap Bm
theorem PJ:∀ f u,(Id f u).length≤f
 | 0,_=>by simp [Id]
 | f+1,u=>by
  have:=PJ f (u / 128);unfold Id;split<;>simp<;>omega
theorem C8 (n:Int):(Bm n).length≤10:=PJ 10 _
theorem Ra {n:Nat} (h:n≤1048576):Au (n:Int):=by unfold Au;omega
theorem PD (l:List Int):(l.flatMap Bm).length≤10 * l.length:=by
 induction l with
 | nil=>simp
 | cons x l ih=>have:=C8 x;simp only [List.flatMap_cons,List.length_append,List.length_cons];omega
theorem _root_.Go.Sl.RSl.dgs {S:Ac} {v:Value} {xs:List Dg} (h:RSl S v xs):∀ d∈xs,d.l.length=16:=by
 intro x hx;obtain ⟨i,hi,rfl⟩:=List.mem_iff_getElem.1 hx;rcases h with ⟨ad,cap,_,h,_⟩|⟨b,o,cap,c,T,fz,_,_,_,_,h⟩
 ·subst h;simp at hi
 ·exact (h.at_ i hi).1
instance l7:StrT Tryz.prog 9:=⟨kr⟩
theorem aY {S M} (w:World) (hst:St S M w) (b:List UInt8) (hm:b.length≤1048576) :
  Ad Tryz.prog 142 [.string ⟨b.toArray⟩] w fun v w'=>St S (.sl v 5 1 (Kv b).length (u8s (Kv b))::M) w':=by
 unfold Ad;go_enter Tryz.func142,Tryz.ntmps142;repeat' (first|(apply gK ();go_step)|(apply kc ();refine sc (Ov w hst (b.length:Nat) (Ra hm)) ?_;clear hst;rintro v w hst)|(with_reducible refine kC ?_;refine Ag hst (by exact AS Ab Aa) ?_<;>(try refine nX ?_))|fail)
 have hel:=C8 b.length;refine OO (k:=0) hst Ab rfl rfl Aa Aa kr (by omega) (by omega) ?_;clear hst;intro v' w hst;refine nX ?_;repeat' (first|(apply gK ();go_step)|fail)
 go_ret;refine ⟨_,rfl,?_⟩;rw [Kv,Jh,List.length_append];exact hst
theorem Vw {S M} (w:World) (hst:St S M w) (vl:Value) (xs:List Int) (hl:RSl S vl xs) (hm:xs.length≤1048576) :
  Ad Tryz.prog 74 [vl] w fun v w'=>St S (.sl v 5 1 (Ku xs).length (u8s (Ku xs))::M) w':=by
 unfold Ad;go_enter Tryz.func74,Tryz.ntmps74;repeat' (first|(apply gK ();go_step)|(apply kc ();refine sc (Ov w hst (xs.length:Nat) (Ra hm)) ?_;clear hst;rintro v w hst)|apply sX ()|fail)
 go_loopw [3,11] (fun u v wr=>∃ i:Nat,i≤xs.length∧v=.int .i64 i∧St S (.sl u 5 1 (Bm xs.length++(xs.take i).flatMap Bm).length (u8s (Bm xs.length++(xs.take i).flatMap Bm))::M) wr) (fun _ v _=>xs.length - (intOf v).toNat)
 case atStart=>exact ⟨0,Nat.zero_le _,rfl,by simpa using hst⟩
 case round =>
  clear hst;obtain ⟨i,hi,rfl,hst⟩:=hrel;have hu:=AW hst;by_cases hlt:i < xs.length
  ·have hcl:(Bm xs.length++(xs.take i).flatMap Bm).length≤10+10 * i:=by
    rw [List.length_append];have:=C8 xs.length;have:=PD (xs.take i);have:(xs.take i).length≤i:=List.length_take_le _ _;omega
   have htk:(xs.take (i+1)).flatMap Bm=(xs.take i).flatMap Bm++Bm xs[i]:=by rw [List.take_add_one,List.getElem?_eq_getElem hlt,Option.toList_some,List.flatMap_append,List.flatMap_cons,List.flatMap_nil,List.append_nil]
   have Htk:=Lib.hid htk;clear htk;have hxl:=C8 xs[i];generalize hc:Bm xs.length++(xs.take i).flatMap Bm=c at *;have Hc:=Lib.hid hc;clear hc;repeat' (first|(apply gK ();go_step)|(apply kc ();refine sc (Ov _ hst xs[i] hI) ?_;clear hst;rintro v w hst)|(apply sN ();intro hI)|(apply sI ();intro v hp)|fail)
   refine AG (j:=0) hst Ab Ab SlIn.h rfl Aa Aa Aa (EO _) (by omega) (by omega) (by decide) ?_;clear hst;intro v' w hst;(try refine nX ?_);(try replace hst:=nH hst);replace hst:=hst.drop;repeat' (first|(apply gK ();go_step)|fail)
   go_roundw
   case rel =>
    refine ⟨i+1,by omega,by go_num,?_⟩;rw [Htk.out,← List.append_assoc,Hc.out,Jh,List.length_append];exact hst
   case measure=>simp [intOf];omega
  ·repeat' (first|(apply gK ();go_step)|fail)
   go_ret;refine ⟨_,rfl,?_⟩;rw [Ku];rw [List.take_of_length_le (by omega)] at hst;exact hst
def Eo (d:Dg):List Value:=u8s d.l
def MG:Nat→List UInt8→List Dg
 | 0,_=>[]
 | m+1,r=>⟨r.take 16⟩::MG m (r.drop 16)
instance nF:EqTy Tryz.prog 23:=⟨by kernel_rfl,by kernel_rfl,by kernel_rfl⟩
instance oC:Key Tryz.prog 5 UInt8 1:=dM kr
instance mt:Key Tryz.prog 23 Dg 2:=ah inferInstance kr kr (by decide)
theorem bn {α:Type} [Rep α] {S:Ac} {c cs:List Value} {x:α} {xs:List α} (h:Rep.R S c x) (hs:RL S cs xs):RL S (c++cs) (x::xs):=by
 have hl:=Rep.len h;refine ⟨by rw [List.length_append,hl,hs.1,List.length_cons,Nat.succ_mul];omega,fun i y hy=>?_⟩
 cases i with
 | zero =>
  obtain rfl:x=y:=by simpa using hy
  rw [Nat.zero_mul,List.drop_zero,← hl,List.take_left];exact h
 | succ i =>
  have:=hs.2 i y (by simpa using hy);rw [show (i+1) * Rep.z α=c.length+i * Rep.z α by rw [hl,Nat.succ_mul];omega,List.drop_append,List.drop_eq_nil_of_le (by omega),List.nil_append,Nat.add_sub_cancel_left];exact this
theorem KM {S:Ac}:∀ {xs:List Dg},(∀ d∈xs,d.l.length=16)→RL S (cF Eo xs) xs
 | [],_=>RL.nil
 | d::xs,h=>by
  have:=KM (S:=S) (xs:=xs) fun e he=>h e (.tail _ he)
  have hd:Rep.R S (u8s d.l) d:=⟨h d (.head _),KL d.l⟩
  have e:cF Eo (d::xs)=u8s d.l++cF Eo xs:=by simp [cF,Eo]
  rw [e];exact bn hd this
abbrev Fz (α:Type) [Rep α] (S:Ac) (M:List Chunk) (xs:List α) (v:Value) (w:World):Prop:=∃ S',S.Le S'∧RSl S' v xs∧v.oneCell'=true∧St S' M w
theorem YR {S:Ac} {M:List Chunk} {v:Value} {w:World} {T:TypeId} {b:List UInt8} (h:St S (.sl v T 1 b.length (u8s b)::M) w):Fz UInt8 S M b v w:=by
 have h1:=AW h;obtain ⟨S',a,c,d⟩:=Mu b h rfl rfl;exact ⟨S',a,d,h1,c⟩
theorem GB {S M} (w:World) (hst:St S M w) (n:Int) (hn:Au n):Ad Tryz.prog 91 [.int .i64 n] w fun v w'=>Fz UInt8 S M (Bm n) v w' :=
 Ad.mono (Ov w hst n hn) fun _ _ h=>YR h
theorem Vv {S M} (w:World) (hst:St S M w) (vl:Value) (xs:List Int) (hl:RSl S vl xs) (hm:xs.length≤1048576):Ad Tryz.prog 74 [vl] w fun v w'=>Fz UInt8 S M (Ku xs) v w' :=
 Ad.mono (Vw w hst vl xs hl hm) fun _ _ h=>YR h
end Go.Proofs.YtmmbidoldegemaaGreatDoor
