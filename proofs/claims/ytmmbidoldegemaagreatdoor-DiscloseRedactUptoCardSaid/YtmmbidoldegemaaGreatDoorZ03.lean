/- Part 4 of a proof; no conditions. -/
import Derived.Test.YtmmbidoldegemaaGreatDoorRows
import Derived.Deep.LoopGhost
import Derived.WalkMore
import Derived.Test.YtmmbidoldegemaaGreatDoorZ02
set_option linter.all false
set_option maxRecDepth 8000
set_option maxHeartbeats 8000000
namespace Go.Proofs.YtmmbidoldegemaaGreatDoor
open Go.RowKit Go.Sl Go.Proofs.Tryz
instance ty3:Ty prog 3 false 1 [.int .i64 0] 8:=⟨kr,kr,rfl,rfl,rfl,by simp⟩
instance qV:IntT prog 3 .i64:=⟨kr⟩
instance th:Ty prog 4 false 1 [.bool false] 1:=⟨kr,kr,rfl,rfl,rfl,by simp⟩
instance mW:Ty prog 5 false 1 [.int .u8 0] 1:=⟨kr,kr,rfl,rfl,rfl,by simp⟩
instance qU:IntT prog 5 .u8:=⟨kr⟩
instance tg:Ty prog 9 false 1 [.string ByteArray.empty] 16:=⟨kr,kr,rfl,rfl,rfl,by simp⟩
instance qE:Ty prog 23 true 16 [.int .u8 0,.int .u8 0,.int .u8 0,.int .u8 0,.int .u8 0,.int .u8 0,.int .u8 0,.int .u8 0,.int .u8 0,.int .u8 0,.int .u8 0,.int .u8 0,.int .u8 0,.int .u8 0,.int .u8 0,.int .u8 0] 16:=⟨kr,kr,rfl,rfl,rfl,by simp⟩
instance iZ:ArrT prog 23 16 5:=⟨kr⟩
instance qD:Ty prog 24 false 1 [.slice none 0 0] 24:=⟨kr,kr,rfl,rfl,rfl,by simp⟩
instance qP:SlT prog 24 59:=⟨kr⟩
instance qC:Ty prog 25 false 1 [.slice none 0 0] 24:=⟨kr,kr,rfl,rfl,rfl,by simp⟩
instance qO:SlT prog 25 63:=⟨kr⟩
instance qz:Ty prog 27 true 18 [.int .u8 0,.int .u8 0,.int .u8 0,.int .u8 0,.int .u8 0,.int .u8 0,.int .u8 0,.int .u8 0,.int .u8 0,.int .u8 0,.int .u8 0,.int .u8 0,.int .u8 0,.int .u8 0,.int .u8 0,.int .u8 0,.slice none 0 0,.slice none 0 0] 64:=⟨kr,kr,rfl,rfl,rfl,by simp⟩
instance mT:FldT prog 27 0 0:=⟨kr⟩
instance mS:FldT prog 27 1 16:=⟨kr⟩
instance mR:FldT prog 27 2 17:=⟨kr⟩
instance oA:StructT prog 27 [(0,16),(16,1),(17,1)]:=⟨kr⟩
instance qy:Ty prog 28 false 1 [.slice none 0 0] 24:=⟨kr,kr,rfl,rfl,rfl,by simp⟩
instance qN:SlT prog 28 57:=⟨kr⟩
instance qx:Ty prog 31 false 1 [.int .i64 0] 8:=⟨kr,kr,rfl,rfl,rfl,by simp⟩
instance k5:SlT prog 37 67:=⟨kr⟩
instance qw:Ty prog 38 false 1 [.int .u32 0] 4:=⟨kr,kr,rfl,rfl,rfl,by simp⟩
instance oM:IntT prog 38 .u32:=⟨kr⟩
instance qM:SlT prog 39 87:=⟨kr⟩
instance qv:Ty prog 40 false 1 [.slice none 0 0] 24:=⟨kr,kr,rfl,rfl,rfl,by simp⟩
instance qL:SlT prog 40 54:=⟨kr⟩
instance qK:SlT prog 45 52:=⟨kr⟩
instance qu:Ty prog 50 true 32 [.int .u8 0,.int .u8 0,.int .u8 0,.int .u8 0,.int .u8 0,.int .u8 0,.int .u8 0,.int .u8 0,.int .u8 0,.int .u8 0,.int .u8 0,.int .u8 0,.int .u8 0,.int .u8 0,.int .u8 0,.int .u8 0,.int .u8 0,.int .u8 0,.int .u8 0,.int .u8 0,.int .u8 0,.int .u8 0,.int .u8 0,.int .u8 0,.int .u8 0,.int .u8 0,.int .u8 0,.int .u8 0,.int .u8 0,.int .u8 0,.int .u8 0,.int .u8 0] 32:=⟨kr,kr,rfl,rfl,rfl,by simp⟩
instance mQ:FldT prog 50 0 0:=⟨kr⟩
instance mP:FldT prog 50 1 16:=⟨kr⟩
instance oz:StructT prog 50 [(0,16),(16,16)]:=⟨kr⟩
instance qr:Ty prog 52 false 1 [.slice none 0 0] 24:=⟨kr,kr,rfl,rfl,rfl,by simp⟩
instance qJ:SlT prog 52 3:=⟨kr⟩
instance qq:Ty prog 54 true 20 [.int .u8 0,.int .u8 0,.int .u8 0,.int .u8 0,.int .u8 0,.int .u8 0,.int .u8 0,.int .u8 0,.int .u8 0,.int .u8 0,.int .u8 0,.int .u8 0,.int .u8 0,.int .u8 0,.int .u8 0,.int .u8 0,.slice none 0 0,.slice none 0 0,.slice none 0 0,.int .i64 0] 96:=⟨kr,kr,rfl,rfl,rfl,by simp⟩
instance mO:FldT prog 54 0 0:=⟨kr⟩
instance mN:FldT prog 54 1 16:=⟨kr⟩
instance mM:FldT prog 54 2 17:=⟨kr⟩
instance mL:FldT prog 54 3 18:=⟨kr⟩
instance mK:FldT prog 54 4 19:=⟨kr⟩
instance qp:Ty prog 57 true 2 [.int .i64 0,.int .i64 0] 16:=⟨kr,kr,rfl,rfl,rfl,by simp⟩
instance qb:ArrT prog 57 2 3:=⟨kr⟩
instance qo:Ty prog 59 true 66 [.int .u8 0,.int .u8 0,.int .u8 0,.int .u8 0,.int .u8 0,.int .u8 0,.int .u8 0,.int .u8 0,.int .u8 0,.int .u8 0,.int .u8 0,.int .u8 0,.int .u8 0,.int .u8 0,.int .u8 0,.int .u8 0,.int .u8 0,.int .u8 0,.int .u8 0,.int .u8 0,.int .u8 0,.int .u8 0,.int .u8 0,.int .u8 0,.int .u8 0,.int .u8 0,.int .u8 0,.int .u8 0,.int .u8 0,.int .u8 0,.int .u8 0,.int .u8 0,.int .i64 0,.int .u8 0,.int .u8 0,.int .u8 0,.int .u8 0,.int .u8 0,.int .u8 0,.int .u8 0,.int .u8 0,.int .u8 0,.int .u8 0,.int .u8 0,.int .u8 0,.int .u8 0,.int .u8 0,.int .u8 0,.int .u8 0,.int .u8 0,.int .u8 0,.int .u8 0,.int .u8 0,.int .u8 0,.int .u8 0,.int .u8 0,.int .u8 0,.int .u8 0,.int .u8 0,.int .u8 0,.int .u8 0,.int .u8 0,.int .u8 0,.int .u8 0,.int .u8 0,.int .i64 0] 80:=⟨kr,kr,rfl,rfl,rfl,by simp⟩
instance mJ:FldT prog 59 0 0:=⟨kr⟩
instance mI:FldT prog 59 1 16:=⟨kr⟩
instance mH:FldT prog 59 2 32:=⟨kr⟩
instance mG:FldT prog 59 3 33:=⟨kr⟩
instance mF:FldT prog 59 4 49:=⟨kr⟩
instance mE:FldT prog 59 5 65:=⟨kr⟩
instance oy:StructT prog 59 [(0,16),(16,16),(32,1),(33,16),(49,16),(65,1)]:=⟨kr⟩
instance qm:Ty prog 61 false 1 [.slice none 0 0] 24:=⟨kr,kr,rfl,rfl,rfl,by simp⟩
instance qI:SlT prog 61 23:=⟨kr⟩
instance ql:Ty prog 63 true 4 [.int .i64 0,.int .i64 0,.int .i64 0,.slice none 0 0] 48:=⟨kr,kr,rfl,rfl,rfl,by simp⟩
instance mD:FldT prog 63 0 0:=⟨kr⟩
instance mC:FldT prog 63 1 1:=⟨kr⟩
instance mB:FldT prog 63 2 2:=⟨kr⟩
instance mA:FldT prog 63 3 3:=⟨kr⟩
instance ox:StructT prog 63 [(0,1),(1,1),(2,1),(3,1)]:=⟨kr⟩
instance qk:Ty prog 65 false 1 [.slice none 0 0] 24:=⟨kr,kr,rfl,rfl,rfl,by simp⟩
instance kZ:SlT prog 65 5:=⟨kr⟩
instance kN:Ty prog 67 true 2 [.string ByteArray.empty,.slice none 0 0] 40:=⟨kr,kr,rfl,rfl,rfl,by simp⟩
instance mz:FldT prog 67 0 0:=⟨kr⟩
instance my:FldT prog 67 1 1:=⟨kr⟩
instance ow:StructT prog 67 [(0,1),(1,1)]:=⟨kr⟩
instance qj:Ty prog 84 false 1 [.slice none 0 0] 24:=⟨kr,kr,rfl,rfl,rfl,by simp⟩
instance qH:SlT prog 84 97:=⟨kr⟩
instance qi:Ty prog 85 false 1 [.slice none 0 0] 24:=⟨kr,kr,rfl,rfl,rfl,by simp⟩
instance qG:SlT prog 85 139:=⟨kr⟩
instance qh:Ty prog 87 true 4 [.slice none 0 0,.slice none 0 0,.int .i64 0,.int .i64 0] 64:=⟨kr,kr,rfl,rfl,rfl,by simp⟩
instance mw:FldT prog 87 0 0:=⟨kr⟩
instance mu:FldT prog 87 1 1:=⟨kr⟩
instance ms:FldT prog 87 2 2:=⟨kr⟩
instance mr:FldT prog 87 3 3:=⟨kr⟩
instance qg:Ty prog 90 false 1 [.slice none 0 0] 24:=⟨kr,kr,rfl,rfl,rfl,by simp⟩
instance qF:SlT prog 90 186:=⟨kr⟩
instance qf:Ty prog 92 true 3 [.slice none 0 0,.int .i64 0,.int .i64 0] 40:=⟨kr,kr,rfl,rfl,rfl,by simp⟩
instance mq:FldT prog 92 0 0:=⟨kr⟩
instance mp:FldT prog 92 1 1:=⟨kr⟩
instance mo:FldT prog 92 2 2:=⟨kr⟩
instance ov:StructT prog 92 [(0,1),(1,1),(2,1)]:=⟨kr⟩
instance qe:Ty prog 97 true 4 [.string ByteArray.empty,.int .i64 0,.int .i64 0,.int .i64 0] 40:=⟨kr,kr,rfl,rfl,rfl,by simp⟩
instance mn:FldT prog 97 0 0:=⟨kr⟩
instance mm:FldT prog 97 1 1:=⟨kr⟩
instance ml:FldT prog 97 2 2:=⟨kr⟩
instance mj:FldT prog 97 3 3:=⟨kr⟩
instance qd:Ty prog 99 true 4 [.slice none 0 0,.slice none 0 0,.int .i64 0,.int .i64 0] 64:=⟨kr,kr,rfl,rfl,rfl,by simp⟩
instance mi:FldT prog 99 0 0:=⟨kr⟩
instance mh:FldT prog 99 1 1:=⟨kr⟩
instance mg:FldT prog 99 2 2:=⟨kr⟩
instance mf:FldT prog 99 3 3:=⟨kr⟩
instance ou:StructT prog 99 [(0,1),(1,1),(2,1),(3,1)]:=⟨kr⟩
instance oq:Ty prog 105 true 2 [.int .i64 0,.int .i64 0] 16:=⟨kr,kr,rfl,rfl,rfl,by simp⟩
instance lZ:FldT prog 105 0 0:=⟨kr⟩
instance lY:FldT prog 105 1 1:=⟨kr⟩
instance mX:StructT prog 105 [(0,1),(1,1)]:=⟨kr⟩
instance nA:IntT prog 113 .u64:=⟨kr⟩
instance oo:Ty prog 127 false 1 [.slice none 0 0] 24:=⟨kr,kr,rfl,rfl,rfl,by simp⟩
instance oG:SlT prog 127 175:=⟨kr⟩
instance om:Ty prog 132 true 6 [.slice none 0 0,.int .i64 0,.slice none 0 0,.slice none 0 0,.int .i64 0,.int .i64 0] 96:=⟨kr,kr,rfl,rfl,rfl,by simp⟩
instance lX:FldT prog 132 0 0:=⟨kr⟩
instance lW:FldT prog 132 1 1:=⟨kr⟩
instance lV:FldT prog 132 2 2:=⟨kr⟩
instance ol:Ty prog 139 true 4 [.int .i64 0,.int .i64 0,.string ByteArray.empty,.slice none 0 0] 56:=⟨kr,kr,rfl,rfl,rfl,by simp⟩
instance lU:FldT prog 139 0 0:=⟨kr⟩
instance lT:FldT prog 139 1 1:=⟨kr⟩
instance lS:FldT prog 139 2 2:=⟨kr⟩
instance lR:FldT prog 139 3 3:=⟨kr⟩
instance oh:Ty prog 148 true 10 [.int .i64 0,.slice none 0 0,.slice none 0 0,.slice none 0 0,.slice none 0 0,.int .i64 0,.int .i64 0,.int .i64 0,.bool false,.int .i64 0] 144:=⟨kr,kr,rfl,rfl,rfl,by simp⟩
instance lQ:FldT prog 148 0 0:=⟨kr⟩
instance lP:FldT prog 148 1 1:=⟨kr⟩
instance lO:FldT prog 148 2 2:=⟨kr⟩
instance lN:FldT prog 148 3 3:=⟨kr⟩
instance lM:FldT prog 148 4 7:=⟨kr⟩
instance lL:FldT prog 148 5 8:=⟨kr⟩
instance lK:FldT prog 148 6 9:=⟨kr⟩
instance og:Ty prog 154 false 1 [.nilFunc] 8:=⟨kr,kr,rfl,rfl,rfl,by simp⟩
instance oe:Ty prog 155 false 1 [.nilFunc] 8:=⟨kr,kr,rfl,rfl,rfl,by simp⟩
instance od:Ty prog 156 false 1 [.map none] 8:=⟨kr,kr,rfl,rfl,rfl,by simp⟩
instance oc:Ty prog 157 false 1 [.nilFunc] 8:=⟨kr,kr,rfl,rfl,rfl,by simp⟩
instance n9:Ty prog 175 true 4 [.int .i64 0,.string ByteArray.empty,.int .i64 0,.int .i64 0] 40:=⟨kr,kr,rfl,rfl,rfl,by simp⟩
instance lJ:FldT prog 175 0 0:=⟨kr⟩
instance lI:FldT prog 175 1 1:=⟨kr⟩
instance lH:FldT prog 175 2 2:=⟨kr⟩
instance oF:SlT prog 180 9:=⟨kr⟩
instance n5:Ty prog 186 true 3 [.int .i64 0,.int .i64 0,.int .i64 0] 24:=⟨kr,kr,rfl,rfl,rfl,by simp⟩
instance lG:FldT prog 186 0 0:=⟨kr⟩
instance lF:FldT prog 186 1 1:=⟨kr⟩
instance lE:FldT prog 186 2 2:=⟨kr⟩
instance nV:Ty prog 188 true 3 [.int .i64 0,.int .i64 0,.bool false] 24:=⟨kr,kr,rfl,rfl,rfl,by simp⟩
instance lD:FldT prog 188 0 0:=⟨kr⟩
instance lC:FldT prog 188 1 1:=⟨kr⟩
instance lB:FldT prog 188 2 2:=⟨kr⟩
instance oE:SlT prog 197 65:=⟨kr⟩
instance nU:Ty prog 199 true 32 [.int .u8 0,.int .u8 0,.int .u8 0,.int .u8 0,.int .u8 0,.int .u8 0,.int .u8 0,.int .u8 0,.int .u8 0,.int .u8 0,.int .u8 0,.int .u8 0,.int .u8 0,.int .u8 0,.int .u8 0,.int .u8 0,.int .u8 0,.int .u8 0,.int .u8 0,.int .u8 0,.int .u8 0,.int .u8 0,.int .u8 0,.int .u8 0,.int .u8 0,.int .u8 0,.int .u8 0,.int .u8 0,.int .u8 0,.int .u8 0,.int .u8 0,.int .u8 0] 32:=⟨kr,kr,rfl,rfl,rfl,by simp⟩
instance nL:ArrT prog 199 32 5:=⟨kr⟩
instance nT:Ty prog 204 false 1 [.slice none 0 0] 24:=⟨kr,kr,rfl,rfl,rfl,by simp⟩
instance oC:SlT prog 204 4:=⟨kr⟩
instance nw:IntT prog 207 .u64:=⟨kr⟩
instance nS:Ty prog 211 false 1 [.nilFunc] 8:=⟨kr,kr,rfl,rfl,rfl,by simp⟩
instance oB:SlT prog 215 90:=⟨kr⟩
instance nR:Ty prog 220 true 8 [.int .u32 0,.int .u32 0,.int .u32 0,.int .u32 0,.int .u32 0,.int .u32 0,.int .u32 0,.int .u32 0] 32:=⟨kr,kr,rfl,rfl,rfl,by simp⟩
instance nK:ArrT prog 220 8 38:=⟨kr⟩
instance nQ:Ty prog 221 false 1 [.nilFunc] 8:=⟨kr,kr,rfl,rfl,rfl,by simp⟩
instance nP:Ty prog 228 true 64 [.int .u32 0,.int .u32 0,.int .u32 0,.int .u32 0,.int .u32 0,.int .u32 0,.int .u32 0,.int .u32 0,.int .u32 0,.int .u32 0,.int .u32 0,.int .u32 0,.int .u32 0,.int .u32 0,.int .u32 0,.int .u32 0,.int .u32 0,.int .u32 0,.int .u32 0,.int .u32 0,.int .u32 0,.int .u32 0,.int .u32 0,.int .u32 0,.int .u32 0,.int .u32 0,.int .u32 0,.int .u32 0,.int .u32 0,.int .u32 0,.int .u32 0,.int .u32 0,.int .u32 0,.int .u32 0,.int .u32 0,.int .u32 0,.int .u32 0,.int .u32 0,.int .u32 0,.int .u32 0,.int .u32 0,.int .u32 0,.int .u32 0,.int .u32 0,.int .u32 0,.int .u32 0,.int .u32 0,.int .u32 0,.int .u32 0,.int .u32 0,.int .u32 0,.int .u32 0,.int .u32 0,.int .u32 0,.int .u32 0,.int .u32 0,.int .u32 0,.int .u32 0,.int .u32 0,.int .u32 0,.int .u32 0,.int .u32 0,.int .u32 0,.int .u32 0] 256:=⟨kr,kr,rfl,rfl,rfl,by simp⟩
instance nJ:ArrT prog 228 64 38:=⟨kr⟩
instance tk:Body prog 9:=⟨kr⟩
instance tf:Body prog 10:=⟨kr⟩
instance te:Body prog 12:=⟨kr⟩
instance tc:Body prog 13:=⟨kr⟩
instance ta:Body prog 15:=⟨kr⟩
instance s9:Body prog 16:=⟨kr⟩
instance s6:Body prog 17:=⟨kr⟩
instance s5:Body prog 18:=⟨kr⟩
instance s4:Body prog 19:=⟨kr⟩
instance s3:Body prog 20:=⟨kr⟩
instance s0:Body prog 21:=⟨kr⟩
instance sW:Body prog 22:=⟨kr⟩
instance sV:Body prog 23:=⟨kr⟩
instance sU:Body prog 24:=⟨kr⟩
instance sR:Body prog 25:=⟨kr⟩
instance sQ:Body prog 26:=⟨kr⟩
instance sO:Body prog 27:=⟨kr⟩
instance sM:Body prog 28:=⟨kr⟩
instance sH:Body prog 29:=⟨kr⟩
instance sF:Body prog 30:=⟨kr⟩
instance sE:Body prog 31:=⟨kr⟩
instance sz:Body prog 32:=⟨kr⟩
instance sw:Body prog 34:=⟨kr⟩
instance su:Body prog 35:=⟨kr⟩
instance sr:Body prog 36:=⟨kr⟩
instance sq:Body prog 37:=⟨kr⟩
instance sm:Body prog 38:=⟨kr⟩
instance sk:Body prog 39:=⟨kr⟩
instance sj:Body prog 40:=⟨kr⟩
instance sh:Body prog 41:=⟨kr⟩
instance sf:Body prog 42:=⟨kr⟩
instance se:Body prog 43:=⟨kr⟩
instance sd:Body prog 44:=⟨kr⟩
instance r9:Body prog 45:=⟨kr⟩
instance r8:Body prog 46:=⟨kr⟩
instance r7:Body prog 47:=⟨kr⟩
instance r6:Body prog 48:=⟨kr⟩
instance r5:Body prog 49:=⟨kr⟩
instance rZ:Body prog 50:=⟨kr⟩
instance rY:Body prog 51:=⟨kr⟩
instance rX:Body prog 52:=⟨kr⟩
instance rW:Body prog 53:=⟨kr⟩
instance rV:Body prog 54:=⟨kr⟩
instance rU:Body prog 55:=⟨kr⟩
instance rT:Body prog 57:=⟨kr⟩
instance rS:Body prog 58:=⟨kr⟩
instance rR:Body prog 59:=⟨kr⟩
instance rQ:Body prog 60:=⟨kr⟩
instance rP:Body prog 61:=⟨kr⟩
instance rO:Body prog 62:=⟨kr⟩
instance rN:Body prog 63:=⟨kr⟩
instance rM:Body prog 64:=⟨kr⟩
instance rL:Body prog 65:=⟨kr⟩
instance rK:Body prog 66:=⟨kr⟩
instance rJ:Body prog 67:=⟨kr⟩
instance rI:Body prog 68:=⟨kr⟩
instance rH:Body prog 69:=⟨kr⟩
instance rG:Body prog 70:=⟨kr⟩
instance rF:Body prog 71:=⟨kr⟩
instance rE:Body prog 72:=⟨kr⟩
instance rD:Body prog 73:=⟨kr⟩
instance rC:Body prog 74:=⟨kr⟩
instance rB:Body prog 75:=⟨kr⟩
instance rA:Body prog 76:=⟨kr⟩
instance rz:Body prog 77:=⟨kr⟩
instance ry:Body prog 78:=⟨kr⟩
instance rx:Body prog 79:=⟨kr⟩
instance ru:Body prog 80:=⟨kr⟩
instance rr:Body prog 81:=⟨kr⟩
instance rq:Body prog 82:=⟨kr⟩
instance ro:Body prog 83:=⟨kr⟩
instance rn:Body prog 84:=⟨kr⟩
instance rm:Body prog 85:=⟨kr⟩
instance rj:Body prog 86:=⟨kr⟩
instance rh:Body prog 87:=⟨kr⟩
instance rg:Body prog 88:=⟨kr⟩
instance re:Body prog 89:=⟨kr⟩
instance rc:Body prog 90:=⟨kr⟩
instance ra:Body prog 91:=⟨kr⟩
instance q9:Body prog 92:=⟨kr⟩
instance q8:Body prog 93:=⟨kr⟩
instance q7:Body prog 94:=⟨kr⟩
instance q6:Body prog 95:=⟨kr⟩
instance qZ:Body prog 96:=⟨kr⟩
instance qY:Body prog 97:=⟨kr⟩
instance qX:Body prog 98:=⟨kr⟩
instance qW:Body prog 99:=⟨kr⟩
instance p7:Body prog 100:=⟨kr⟩
instance p6:Body prog 101:=⟨kr⟩
instance p5:Body prog 102:=⟨kr⟩
instance p4:Body prog 103:=⟨kr⟩
instance pW:Body prog 104:=⟨kr⟩
instance pU:Body prog 105:=⟨kr⟩
instance pT:Body prog 106:=⟨kr⟩
instance pO:Body prog 107:=⟨kr⟩
instance pM:Body prog 108:=⟨kr⟩
instance pK:Body prog 109:=⟨kr⟩
instance pJ:Body prog 110:=⟨kr⟩
instance pI:Body prog 111:=⟨kr⟩
instance pG:Body prog 112:=⟨kr⟩
instance pF:Body prog 113:=⟨kr⟩
instance pD:Body prog 114:=⟨kr⟩
instance pz:Body prog 115:=⟨kr⟩
instance py:Body prog 116:=⟨kr⟩
instance pw:Body prog 117:=⟨kr⟩
instance pv:Body prog 118:=⟨kr⟩
instance pu:Body prog 119:=⟨kr⟩
instance pr:Body prog 120:=⟨kr⟩
instance pq:Body prog 121:=⟨kr⟩
instance pm:Body prog 122:=⟨kr⟩
instance pl:Body prog 123:=⟨kr⟩
instance pj:Body prog 124:=⟨kr⟩
instance pi:Body prog 125:=⟨kr⟩
instance ph:Body prog 127:=⟨kr⟩
instance pf:Body prog 128:=⟨kr⟩
instance pb:Body prog 129:=⟨kr⟩
instance o9:Body prog 130:=⟨kr⟩
instance o8:Body prog 131:=⟨kr⟩
instance o7:Body prog 132:=⟨kr⟩
instance o6:Body prog 133:=⟨kr⟩
instance o5:Body prog 134:=⟨kr⟩
instance o4:Body prog 135:=⟨kr⟩
instance o3:Body prog 136:=⟨kr⟩
instance oZ:Body prog 137:=⟨kr⟩
instance oY:Body prog 138:=⟨kr⟩
instance oX:Body prog 139:=⟨kr⟩
instance oW:Body prog 140:=⟨kr⟩
instance oV:Body prog 141:=⟨kr⟩
instance oU:Body prog 142:=⟨kr⟩
instance oT:Body prog 143:=⟨kr⟩
instance oS:Body prog 144:=⟨kr⟩
instance oR:Body prog 145:=⟨kr⟩
instance oQ:Body prog 146:=⟨kr⟩
instance oP:Body prog 147:=⟨kr⟩
instance oO:Body prog 148:=⟨kr⟩
instance oN:Body prog 149:=⟨kr⟩
def MP (n:Int):Nat:=if 0≤n then (2 * n).toNat else (-2 * n - 1).toNat
def IR:Nat→Nat→List UInt8
 | 0,_=>[]
 | f+1,u=>if u < 128 then [UInt8.ofNat u] else UInt8.ofNat (128+u % 128)::IR f (u / 128)
def Bx (n:Int):List UInt8:=IR 10 (MP n)
theorem aE {n} (h:0≤n) (hn:Au n):IntKind.u64.wrap (2 * IntKind.u64.wrap n)=(MP n:Nat):=by
 unfold Au at hn;simp only [MP,if_pos h,IntKind.wrap,IntKind.bits,IntKind.signed];simp;omega
theorem UA {x} (h0:0≤x) (h1:x < 18446744073709551616):bits .xor .u64 (if IntKind.u64.signed=true then -1 else IntKind.u64.max) x=18446744073709551615 - x:=by
 have e:BitVec.ofInt 64 18446744073709551615=BitVec.allOnes 64:=by decide
 show IntKind.u64.wrap ((BitVec.ofInt 64 18446744073709551615 ^^^ BitVec.ofInt 64 x).toNat:Int)=_;rw [e,BitVec.allOnes_xor,BitVec.toNat_not,BitVec.toNat_ofInt];simp only [IntKind.wrap,IntKind.bits,IntKind.signed];simp;omega
theorem Xp {n} (h:0≤n) (hn:Au n):IntKind.u64.wrap (IntKind.u64.wrap n * 2)=(MP n:Nat):=by
 rw [Int.mul_comm];exact aE h hn
theorem aF {n} (h:n < 0) (hn:Au n):bits .xor .u64 (if IntKind.u64.signed=true then -1 else IntKind.u64.max) (IntKind.u64.wrap (IntKind.u64.wrap n * 2))=(MP n:Nat):=by
 have hx:IntKind.u64.wrap (IntKind.u64.wrap n * 2)=2 * n+18446744073709551616:=by
  unfold Au at hn;simp only [IntKind.wrap,IntKind.bits,IntKind.signed];simp;omega
 unfold Au at hn;rw [hx,UA (by omega) (by omega),MP,if_neg (by omega)];omega
theorem ew {n} (hn:Au n):MP n < 18446744073709551616:=by
 unfold Au at hn;unfold MP;split<;>omega
theorem iI:18446744073709551616 < 128 ^ 10:=by simp
theorem iL:∀ x < 256,bits .or .u8 ((x:Nat):Int) 128=((128+x % 128:Nat):Int):=by decide +kernel
theorem Xx {x} (h:x < 128):((UInt8.ofNat x).toNat:Int)=x:=by
 rw [UInt8.toNat_ofNat'];omega
theorem cu (x:Nat):bits .or .u8 ((x:Int) % 256) 128=((UInt8.ofNat (128+x % 128)).toNat:Int):=by
 have h:=iL (x % 256) (Nat.mod_lt _ (by decide));rw [UInt8.toNat_ofNat'];rw [show ((x:Int) % 256)=((x % 256:Nat):Int) from by omega,h];omega
theorem Zw {f u} (h:u < 128):IR (f+1) u=[UInt8.ofNat u]:=by rw [IR,if_pos h]
theorem WH {f u} (h:¬ u < 128):IR (f+1) u=UInt8.ofNat (128+u % 128)::IR f (u / 128):=by rw [IR,if_neg h]
theorem Pv {S M} (w) (V:St S M w) (n) (hn:Au n):
  Ac prog 91 [.int .i64 n] w fun v w'=>St S (.sl v 5 1 (Bx n).length (u8s (Bx n))::M) w':=by
 unfold Ac;by_cases h:0≤n
 ·have hz':=Lib.hid (Xp h hn);go_enter func91,ntmps91;apply kG ()
 ·have hz':=Lib.hid (aF (by omega) hn);go_enter func91,ntmps91;apply kG ()
abbrev Dg:=H7 UInt8 16
def Lk (b:List UInt8):List UInt8:=Bx b.length++b
def Lj (l:List Int):List UInt8:=Bx l.length++l.flatMap Bx
theorem QQ:∀ f u,(IR f u).length≤f
 | 0,_=>by simp [IR]
 | f+1,u=>by
  have:=QQ f (u / 128);unfold IR;split<;>simp<;>omega
theorem Dq (n):(Bx n).length≤10:=QQ 10 _
theorem Sg {n:Nat} (h:n≤1048576):Au (n:Int):=by unfold Au;omega
theorem QE (l:List Int):(l.flatMap Bx).length≤10 * l.length:=by
 induction l with
 | nil=>simp
 | cons x l ih=>have:=Dq x;simp only [List.flatMap_cons,List.length_append,List.length_cons];omega
theorem ZA {S cl} {d:Dg} (h:Z.R S cl d):d.l.length=16∧cl=u8s d.l:=⟨h.1,h.2.eq_u8s⟩
theorem _root_.Go.Sl.RSl.dgs {S v} {xs:List Dg} (h:RSl S v xs):∀ d∈xs,d.l.length=16:=by
 intro x hx;obtain ⟨i,hi,rfl⟩:=List.mem_iff_getElem.1 hx;rcases h with ⟨ad,cap,_,h,_⟩|⟨b,o,cap,c,T,fz,_,_,_,_,h⟩
 ·subst h;simp at hi
 ·exact (h.at_ i hi).1
instance ot:StrT prog 9:=⟨kr⟩
theorem dY {S M} (w) (V:St S M w) (b) (hm:b.length≤1048576):
  Ac prog 142 [.string ⟨b.toArray⟩] w fun v w'=>St S (.sl v 5 1 (Lk b).length (u8s (Lk b))::M) w':=by
 unfold Ac;go_enter func142,ntmps142;repeat' (first|(apply O ();go_step)|(apply kc ();refine sc (Pv w V (b.length:Nat) (Sg hm)) ?_;clear V;rintro v w V)|(apply kc ();refine Ag V (by exact AW X Y) ?_<;>apply nW ())|fail)
 have hel:=Dq b.length;refine PN (k:=0) V X rfl rfl Y Y kr (by omega) (by omega) ?_;clear V;intro v' w V;refine nX ?_;repeat' (first|(apply O ();go_step)|fail)
 go_ret;refine ⟨_,rfl,?_⟩;rw [Lk,J5,List.length_append];exact V
theorem WG {S M} (w) (V:St S M w) (vl xs) (hl:RSl S vl xs) (hm:xs.length≤1048576):
  Ac prog 74 [vl] w fun v w'=>St S (.sl v 5 1 (Lj xs).length (u8s (Lj xs))::M) w':=by
 unfold Ac;go_enter func74,ntmps74;repeat' (first|(apply O ();go_step)|(apply kc ();refine sc (Pv w V (xs.length:Nat) (Sg hm)) ?_;clear V;rintro v w V)|apply sX ()|fail)
 go_loopw [3,11] (fun u v wr=>∃ i:Nat,i≤xs.length∧v=.int .i64 i∧St S (.sl u 5 1 (Bx xs.length++(xs.take i).flatMap Bx).length (u8s (Bx xs.length++(xs.take i).flatMap Bx))::M) wr) (fun _ v _=>xs.length - (intOf v).toNat)
 case atStart=>exact ⟨0,Nat.zero_le _,rfl,by simpa using V⟩
 case round =>
  clear V;obtain ⟨i,hi,rfl,V⟩:=hrel;have hu:=Go.Sl.AY V;by_cases hlt:i < xs.length
  ·have hcl:(Bx xs.length++(xs.take i).flatMap Bx).length≤10+10 * i:=by
    rw [List.length_append];have:=Dq xs.length;have:=QE (xs.take i);have:(xs.take i).length≤i:=List.length_take_le _ _;omega
   have htk:(xs.take (i+1)).flatMap Bx=(xs.take i).flatMap Bx++Bx xs[i]:=by rw [List.take_add_one,List.getElem?_eq_getElem hlt,Option.toList_some,List.flatMap_append,List.flatMap_cons,List.flatMap_nil,List.append_nil]
   have Htk:=Lib.hid htk;clear htk;have hxl:=Dq xs[i];generalize hc:Bx xs.length++(xs.take i).flatMap Bx=c at *;have Hc:=Lib.hid hc;clear hc;repeat' (first|(apply O ();go_step)|(apply kc ();refine sc (Pv _ V xs[i] hI) ?_;clear V;rintro v w V)|(apply sN ();intro hI)|(apply sI ();intro v L)|fail)
   refine AF (j:=0) V X X SlIn.h rfl Y Y Y (Fh _) (by omega) (by omega) (by decide) ?_;clear V;intro v' w V;apply nW ();(try replace V:=nH V);replace V:=V.drop;repeat' (first|(apply O ();go_step)|fail)
   go_roundw
   case rel =>
    refine ⟨i+1,by omega,by go_num,?_⟩;rw [Htk.out,← List.append_assoc,Hc.out,J5,List.length_append];exact V
   case measure=>simp [intOf];omega
  ·repeat' (first|(apply O ();go_step)|fail)
   go_ret;refine ⟨_,rfl,?_⟩;rw [Lj];rw [List.take_of_length_le (by omega)] at V;exact V
def EN (d:Dg):List Value:=u8s d.l
def NH:Nat→List UInt8→List Dg
 | 0,_=>[]
 | m+1,r=>⟨r.take 16⟩::NH m (r.drop 16)
instance p8:EqTy prog 23:=⟨by kernel_rfl,by kernel_rfl,by kernel_rfl⟩
instance qT:Key prog 5 UInt8 1:=fY kr
instance oL:Key prog 23 Dg 2:=dw inferInstance kr kr (by decide)
theorem et {α:Type} [Z α] {S c cs} {x:α} {xs} (h:Z.R S c x) (hs:RL S cs xs):RL S (c++cs) (x::xs):=by
 have hl:=Z.len h;refine ⟨by rw [List.length_append,hl,hs.1,List.length_cons,Nat.succ_mul];omega,fun i y hy=>?_⟩
 cases i with
 | zero =>
  obtain rfl:x=y:=by simpa using hy
  rw [Nat.zero_mul,List.drop_zero,← hl,List.take_left];exact h
 | succ i =>
  have:=hs.2 i y (by simpa using hy);rw [show (i+1) * Z.z α=c.length+i * Z.z α by rw [hl,Nat.succ_mul];omega,List.drop_append,List.drop_eq_nil_of_le (by omega),List.nil_append,Nat.add_sub_cancel_left];exact this
theorem LB {S:Ad}:∀ {xs:List Dg},(∀ d∈xs,d.l.length=16)→RL S (cF EN xs) xs
 | [],_=>RL.nil
 | d::xs,h=>by
  have:=LB (S:=S) (xs:=xs) fun e he=>h e (.tail _ he)
  have hd:Z.R S (u8s d.l) d:=⟨h d (.head _),LA d.l⟩
  have e:cF EN (d::xs)=u8s d.l++cF EN xs:=by simp [cF,EN]
  rw [e];exact et hd this
abbrev Fz (α:Type) [Z α] (S:Ad) (M:List J) (xs:List α) (v:Value) (w:World):Prop:=∃ S',S.Le S'∧RSl S' v xs∧v.oneCell'=true∧St S' M w
theorem ab {S M v w T b} (h:St S (.sl v T 1 b.length (u8s b)::M) w):Fz UInt8 S M b v w:=by
 have h1:=Go.Sl.AY h;obtain ⟨S',a,c,d⟩:=Nu b h rfl rfl;exact ⟨S',a,d,h1,c⟩
theorem Ha {S M} (w) (V:St S M w) (n) (hn:Au n):Ac prog 91 [.int .i64 n] w fun v w'=>Fz UInt8 S M (Bx n) v w' :=
 Ac.mono (Pv w V n hn) fun _ _ h=>ab h
theorem WF {S M} (w) (V:St S M w) (vl xs) (hl:RSl S vl xs) (hm:xs.length≤1048576):Ac prog 74 [vl] w fun v w'=>Fz UInt8 S M (Lj xs) v w' :=
 Ac.mono (WG w V vl xs hl hm) fun _ _ h=>ab h
end Go.Proofs.YtmmbidoldegemaaGreatDoor
