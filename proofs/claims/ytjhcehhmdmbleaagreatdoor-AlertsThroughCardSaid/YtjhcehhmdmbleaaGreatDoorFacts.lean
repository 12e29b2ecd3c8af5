/-
  Closed facts on the types and functions of the program.
-/
import Derived.Test.YtjhcehhmdmbleaaGreatDoorProg
import Derived.Test.YtjhcehhmdmbleaaGreatDoorEng5
open Go Go.Eng Go.Proofs
namespace Go.Proofs.YtjhcehhmdmbleaaGreatDoor.Law
set_option maxRecDepth 100000
set_option linter.unusedVariables false
set_option maxHeartbeats 1000000
theorem dS:bP Tryz.prog 100=true:=by kernel_rfl
theorem ag22:bP Tryz.prog 22=false:=by kernel_rfl
theorem ag3:bP Tryz.prog 3=false:=by kernel_rfl
theorem ag35:bP Tryz.prog 35=false:=by kernel_rfl
theorem AC:bP Tryz.prog 45=true:=by kernel_rfl
theorem ag60:bP Tryz.prog 60=true:=by kernel_rfl
theorem vX:bP Tryz.prog 66=true:=by kernel_rfl
theorem ag76:bP Tryz.prog 76=true:=by kernel_rfl
theorem xk:bP Tryz.prog 79=false:=by kernel_rfl
theorem ag9:bP Tryz.prog 9=false:=by kernel_rfl
theorem Ct:bP Tryz.prog 98=false:=by kernel_rfl
theorem KQ:iR Tryz.prog 100=128:=by kernel_rfl
theorem by3:iR Tryz.prog 3=8:=by kernel_rfl
theorem by45:iR Tryz.prog 45=32:=by kernel_rfl
theorem by66:iR Tryz.prog 66=32:=by kernel_rfl
theorem by76:iR Tryz.prog 76=32:=by kernel_rfl
theorem by9:iR Tryz.prog 9=16:=by kernel_rfl
theorem Gs:dm Tryz.prog 22=some 3:=by kernel_rfl
theorem Ij:dm Tryz.prog 56=some 100:=by kernel_rfl
theorem el63:dm Tryz.prog 63=some 66:=by kernel_rfl
theorem el67:dm Tryz.prog 67=some 76:=by kernel_rfl
theorem el79:dm Tryz.prog 79=some 9:=by kernel_rfl
theorem el98:dm Tryz.prog 98=some 45:=by kernel_rfl
theorem es140:(dm Tryz.prog 140).bind (szT Tryz.prog)=some 1:=by kernel_rfl
theorem es161:(dm Tryz.prog 161).bind (szT Tryz.prog)=some 1:=by kernel_rfl
theorem iW:(dm Tryz.prog 22).bind (szT Tryz.prog)=some 1:=by kernel_rfl
theorem jD:(dm Tryz.prog 56).bind (szT Tryz.prog)=some 9:=by kernel_rfl
theorem CF:(dm Tryz.prog 63).bind (szT Tryz.prog)=some 3:=by kernel_rfl
theorem D9:(dm Tryz.prog 67).bind (szT Tryz.prog)=some 3:=by kernel_rfl
theorem mM:(dm Tryz.prog 79).bind (szT Tryz.prog)=some 1:=by kernel_rfl
theorem Jd:(dm Tryz.prog 98).bind (szT Tryz.prog)=some 4:=by kernel_rfl
theorem ez140:((dm Tryz.prog 140).bind (zeroCells Tryz.prog)).isSome=true:=by kernel_rfl
theorem ez161:((dm Tryz.prog 161).bind (zeroCells Tryz.prog)).isSome=true:=by kernel_rfl
theorem si:((dm Tryz.prog 22).bind (zeroCells Tryz.prog)).isSome=true:=by kernel_rfl
theorem ez56:((dm Tryz.prog 56).bind (zeroCells Tryz.prog)).isSome=true:=by kernel_rfl
theorem ez63:((dm Tryz.prog 63).bind (zeroCells Tryz.prog)).isSome=true:=by kernel_rfl
theorem ez67:((dm Tryz.prog 67).bind (zeroCells Tryz.prog)).isSome=true:=by kernel_rfl
theorem sS:((dm Tryz.prog 79).bind (zeroCells Tryz.prog)).isSome=true:=by kernel_rfl
theorem ez98:((dm Tryz.prog 98).bind (zeroCells Tryz.prog)).isSome=true:=by kernel_rfl
theorem hb101:aI Tryz.prog 101=true:=by kernel_rfl
theorem hb103:aI Tryz.prog 103=true:=by kernel_rfl
theorem hb107:aI Tryz.prog 107=true:=by kernel_rfl
theorem G7:aI Tryz.prog 108=true:=by kernel_rfl
theorem hb109:aI Tryz.prog 109=true:=by kernel_rfl
theorem H7:aI Tryz.prog 114=true:=by kernel_rfl
theorem hb120:aI Tryz.prog 120=true:=by kernel_rfl
theorem hb122:aI Tryz.prog 122=true:=by kernel_rfl
theorem GV:aI Tryz.prog 125=true:=by kernel_rfl
theorem hb126:aI Tryz.prog 126=true:=by kernel_rfl
theorem hb129:aI Tryz.prog 129=true:=by kernel_rfl
theorem hb133:aI Tryz.prog 133=true:=by kernel_rfl
theorem hb135:aI Tryz.prog 135=true:=by kernel_rfl
theorem hb138:aI Tryz.prog 138=true:=by kernel_rfl
theorem hb141:aI Tryz.prog 141=true:=by kernel_rfl
theorem Jp:aI Tryz.prog 159=true:=by kernel_rfl
theorem hb160:aI Tryz.prog 160=true:=by kernel_rfl
theorem hb161:aI Tryz.prog 161=true:=by kernel_rfl
theorem hb162:aI Tryz.prog 162=true:=by kernel_rfl
theorem hb163:aI Tryz.prog 163=true:=by kernel_rfl
theorem hb164:aI Tryz.prog 164=true:=by kernel_rfl
theorem hb165:aI Tryz.prog 165=true:=by kernel_rfl
theorem Ky:aI Tryz.prog 167=true:=by kernel_rfl
theorem hb168:aI Tryz.prog 168=true:=by kernel_rfl
theorem KI:aI Tryz.prog 178=true:=by kernel_rfl
theorem hb179:aI Tryz.prog 179=true:=by kernel_rfl
theorem hb18:aI Tryz.prog 18=true:=by kernel_rfl
theorem hb181:aI Tryz.prog 181=true:=by kernel_rfl
theorem hb182:aI Tryz.prog 182=true:=by kernel_rfl
theorem hb183:aI Tryz.prog 183=true:=by kernel_rfl
theorem hb186:aI Tryz.prog 186=true:=by kernel_rfl
theorem hb189:aI Tryz.prog 189=true:=by kernel_rfl
theorem DI:aI Tryz.prog 19=true:=by kernel_rfl
theorem hb190:aI Tryz.prog 190=true:=by kernel_rfl
theorem hb191:aI Tryz.prog 191=true:=by kernel_rfl
theorem ES:aI Tryz.prog 20=true:=by kernel_rfl
theorem hb205:aI Tryz.prog 205=true:=by kernel_rfl
theorem hb206:aI Tryz.prog 206=true:=by kernel_rfl
theorem hb207:aI Tryz.prog 207=true:=by kernel_rfl
theorem hb208:aI Tryz.prog 208=true:=by kernel_rfl
theorem hb209:aI Tryz.prog 209=true:=by kernel_rfl
theorem Bd:aI Tryz.prog 21=true:=by kernel_rfl
theorem hb210:aI Tryz.prog 210=true:=by kernel_rfl
theorem hb211:aI Tryz.prog 211=true:=by kernel_rfl
theorem hb212:aI Tryz.prog 212=true:=by kernel_rfl
theorem hb213:aI Tryz.prog 213=true:=by kernel_rfl
theorem hb22:aI Tryz.prog 22=true:=by kernel_rfl
theorem hb224:aI Tryz.prog 224=true:=by kernel_rfl
theorem hb225:aI Tryz.prog 225=true:=by kernel_rfl
theorem hb226:aI Tryz.prog 226=true:=by kernel_rfl
theorem hb23:aI Tryz.prog 23=true:=by kernel_rfl
theorem Jl:aI Tryz.prog 231=true:=by kernel_rfl
theorem hb239:aI Tryz.prog 239=true:=by kernel_rfl
theorem hb24:aI Tryz.prog 24=true:=by kernel_rfl
theorem hb249:aI Tryz.prog 249=true:=by kernel_rfl
theorem hb25:aI Tryz.prog 25=true:=by kernel_rfl
theorem hb259:aI Tryz.prog 259=true:=by kernel_rfl
theorem hb26:aI Tryz.prog 26=true:=by kernel_rfl
theorem hb260:aI Tryz.prog 260=true:=by kernel_rfl
theorem hb261:aI Tryz.prog 261=true:=by kernel_rfl
theorem hb262:aI Tryz.prog 262=true:=by kernel_rfl
theorem hb268:aI Tryz.prog 268=true:=by kernel_rfl
theorem hb269:aI Tryz.prog 269=true:=by kernel_rfl
theorem hb27:aI Tryz.prog 27=true:=by kernel_rfl
theorem hb272:aI Tryz.prog 272=true:=by kernel_rfl
theorem hb273:aI Tryz.prog 273=true:=by kernel_rfl
theorem hb28:aI Tryz.prog 28=true:=by kernel_rfl
theorem hb280:aI Tryz.prog 280=true:=by kernel_rfl
theorem hb29:aI Tryz.prog 29=true:=by kernel_rfl
theorem hb30:aI Tryz.prog 30=true:=by kernel_rfl
theorem zk:aI Tryz.prog 34=true:=by kernel_rfl
theorem hb38:aI Tryz.prog 38=true:=by kernel_rfl
theorem hb39:aI Tryz.prog 39=true:=by kernel_rfl
theorem hb41:aI Tryz.prog 41=true:=by kernel_rfl
theorem hb45:aI Tryz.prog 45=true:=by kernel_rfl
theorem Ga:aI Tryz.prog 47=true:=by kernel_rfl
theorem hb73:aI Tryz.prog 73=true:=by kernel_rfl
theorem CK:aI Tryz.prog 81=true:=by kernel_rfl
theorem hb82:aI Tryz.prog 82=true:=by kernel_rfl
theorem hb83:aI Tryz.prog 83=true:=by kernel_rfl
theorem A9:aI Tryz.prog 84=true:=by kernel_rfl
theorem hb85:aI Tryz.prog 85=true:=by kernel_rfl
theorem hb86:aI Tryz.prog 86=true:=by kernel_rfl
theorem hb87:aI Tryz.prog 87=true:=by kernel_rfl
theorem hb88:aI Tryz.prog 88=true:=by kernel_rfl
theorem wB:aI Tryz.prog 89=true:=by kernel_rfl
theorem hb90:aI Tryz.prog 90=true:=by kernel_rfl
theorem hb91:aI Tryz.prog 91=true:=by kernel_rfl
theorem hb92:aI Tryz.prog 92=true:=by kernel_rfl
theorem hb97:aI Tryz.prog 97=true:=by kernel_rfl
theorem hb98:aI Tryz.prog 98=true:=by kernel_rfl
theorem hb99:aI Tryz.prog 99=true:=by kernel_rfl
theorem Ht:Cb Tryz.prog 168=some (9,4):=by kernel_rfl
theorem nb248:aI Tryz.prog 248=false:=by kernel_rfl
theorem nb320:aI Tryz.prog 320=false:=by kernel_rfl
theorem eT:fA Tryz.prog 100 0=some (0,1):=by kernel_rfl
theorem rF:fA Tryz.prog 100 1=some (1,1):=by kernel_rfl
theorem lL:fA Tryz.prog 100 2=some (2,1):=by kernel_rfl
theorem jI:fA Tryz.prog 100 3=some (3,1):=by kernel_rfl
theorem dZ:fA Tryz.prog 100 4=some (4,1):=by kernel_rfl
theorem rJ:fA Tryz.prog 100 5=some (5,1):=by kernel_rfl
theorem rC:fA Tryz.prog 100 6=some (6,1):=by kernel_rfl
theorem mg:fA Tryz.prog 100 7=some (7,1):=by kernel_rfl
theorem pM:fA Tryz.prog 100 8=some (8,1):=by kernel_rfl
theorem CX:fA Tryz.prog 25 0=some (0,1):=by kernel_rfl
theorem zA:fA Tryz.prog 25 1=some (1,1):=by kernel_rfl
theorem qW:fA Tryz.prog 45 0=some (0,1):=by kernel_rfl
theorem rE:fA Tryz.prog 45 1=some (1,1):=by kernel_rfl
theorem Ap:fA Tryz.prog 45 2=some (2,1):=by kernel_rfl
theorem xA:fA Tryz.prog 45 3=some (3,1):=by kernel_rfl
theorem xn:fA Tryz.prog 60 0=some (0,1):=by kernel_rfl
theorem pV:fA Tryz.prog 60 1=some (1,1):=by kernel_rfl
theorem tZ:fA Tryz.prog 66 0=some (0,1):=by kernel_rfl
theorem xG:fA Tryz.prog 66 1=some (1,1):=by kernel_rfl
theorem zn:fA Tryz.prog 66 2=some (2,1):=by kernel_rfl
theorem Jr:fA Tryz.prog 76 0=some (0,2):=by kernel_rfl
theorem Kq:fA Tryz.prog 76 1=some (2,1):=by kernel_rfl
theorem bB:szT Tryz.prog 100=some 9:=by kernel_rfl
theorem sz22:szT Tryz.prog 22=some 1:=by kernel_rfl
theorem sz3:szT Tryz.prog 3=some 1:=by kernel_rfl
theorem sz35:szT Tryz.prog 35=some 1:=by kernel_rfl
theorem rz:szT Tryz.prog 45=some 4:=by kernel_rfl
theorem Jh:szT Tryz.prog 60=some 2:=by kernel_rfl
theorem qP:szT Tryz.prog 66=some 3:=by kernel_rfl
theorem sz76:szT Tryz.prog 76=some 3:=by kernel_rfl
theorem uM:szT Tryz.prog 79=some 1:=by kernel_rfl
theorem sz9:szT Tryz.prog 9=some 1:=by kernel_rfl
theorem zh:szT Tryz.prog 98=some 1:=by kernel_rfl
theorem un140:(Tryz.prog).underlying 140=some (.slice 35):=by kernel_rfl
theorem rZ:(Tryz.prog).underlying 22=some (.slice 3):=by kernel_rfl
theorem un233:(Tryz.prog).underlying 233=some (.array 2 3):=by kernel_rfl
theorem KJ:(Tryz.prog).underlying 238=some (.int .u64):=by kernel_rfl
theorem un289:(Tryz.prog).underlying 289=some (.int .u64):=by kernel_rfl
theorem un3:(Tryz.prog).underlying 3=some (.int .i64):=by kernel_rfl
theorem un4:(Tryz.prog).underlying 4=some .bool:=by kernel_rfl
theorem un5:(Tryz.prog).underlying 5=some (.int .u8):=by kernel_rfl
theorem pG:(Tryz.prog).underlying 56=some (.slice 100):=by kernel_rfl
theorem FJ:(Tryz.prog).underlying 63=some (.slice 66):=by kernel_rfl
theorem J4:(Tryz.prog).underlying 67=some (.slice 76):=by kernel_rfl
theorem vv:(Tryz.prog).underlying 79=some (.slice 9):=by kernel_rfl
theorem un9:(Tryz.prog).underlying 9=some .string:=by kernel_rfl
theorem FU:(Tryz.prog).underlying 98=some (.slice 45):=by kernel_rfl
theorem sQ:zeroCells Tryz.prog 100=some [.d (.str ⟨#[]⟩),.d (.str ⟨#[]⟩),.d (.int .i64 0),.nil,.d (.int .i64 0),.d (.int .i64 0),.d (.int .i64 0),.nil,.d (.str ⟨#[]⟩)]:=by kernel_rfl
theorem z3:zeroCells Tryz.prog 3=some [.d (.int .i64 0)]:=by kernel_rfl
theorem z45:zeroCells Tryz.prog 45=some [.d (.int .i64 0),.d (.int .i64 0),.d (.int .i64 0),.d (.int .i64 0)]:=by kernel_rfl
theorem z60:zeroCells Tryz.prog 60=some [.d (.int .i64 0),.d (.int .i64 0)]:=by kernel_rfl
theorem z66:zeroCells Tryz.prog 66=some [.d (.str ⟨#[]⟩),.d (.int .i64 0),.d (.int .i64 0)]:=by kernel_rfl
theorem z76:zeroCells Tryz.prog 76=some [.d (.int .i64 0),.d (.int .i64 0),.d (.str ⟨#[]⟩)]:=by kernel_rfl
theorem z9:zeroCells Tryz.prog 9=some [.d (.str ⟨#[]⟩)]:=by kernel_rfl
theorem II:∀ w0,Go.Eng.y5 w0→Go.Lib.Utf8Tabs 1 2 w0:=fun _ h=>h.1
theorem DX:∀ w0,Go.Eng.y5 w0 → ∃ m,w0.cell? ⟨0,0,none⟩=some (.int .i64 m):=fun _ h=>h.2
end Go.Proofs.YtjhcehhmdmbleaaGreatDoor.Law

