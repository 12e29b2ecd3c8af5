/-
  Closed facts on the types and functions of the program.
-/
import Derived.Test.YtjhcehhmdmbleaaGreatDoorProg
import Derived.Test.YtjhcehhmdmbleaaGreatDoorEng5
open Go Go.Eng Go.Proofs
namespace Go.Proofs.YtjhcehhmdmbleaaGreatDoor.Law
set_option maxRecDepth 100000
set_option linter.unusedVariables false
set_option maxHeartbeats 1000000
theorem zL:bX Tryz.prog 100=true:=by kernel_rfl
theorem uj:bX Tryz.prog 151=true:=by kernel_rfl
theorem Ma:bX Tryz.prog 154=true:=by kernel_rfl
theorem J8:bX Tryz.prog 157=true:=by kernel_rfl
theorem E8:bX Tryz.prog 179=false:=by kernel_rfl
theorem oD:bX Tryz.prog 181=true:=by kernel_rfl
theorem Au:bX Tryz.prog 22=false:=by kernel_rfl
theorem wR:bX Tryz.prog 223=true:=by kernel_rfl
theorem ag3:bX Tryz.prog 3=false:=by kernel_rfl
theorem ag316:bX Tryz.prog 316=true:=by kernel_rfl
theorem ag35:bX Tryz.prog 35=false:=by kernel_rfl
theorem ag4:bX Tryz.prog 4=false:=by kernel_rfl
theorem Hr:bX Tryz.prog 45=true:=by kernel_rfl
theorem qd:bX Tryz.prog 60=true:=by kernel_rfl
theorem ag66:bX Tryz.prog 66=true:=by kernel_rfl
theorem ag76:bX Tryz.prog 76=true:=by kernel_rfl
theorem DD:bX Tryz.prog 79=false:=by kernel_rfl
theorem vX:bX Tryz.prog 81=true:=by kernel_rfl
theorem ag9:bX Tryz.prog 9=false:=by kernel_rfl
theorem Lc:bX Tryz.prog 98=false:=by kernel_rfl
theorem by151:iA Tryz.prog 151=152:=by kernel_rfl
theorem ME:iA Tryz.prog 181=24:=by kernel_rfl
theorem JE:iA Tryz.prog 223=16:=by kernel_rfl
theorem by3:iA Tryz.prog 3=8:=by kernel_rfl
theorem by316:iA Tryz.prog 316=16:=by kernel_rfl
theorem by45:iA Tryz.prog 45=32:=by kernel_rfl
theorem by60:iA Tryz.prog 60=16:=by kernel_rfl
theorem by76:iA Tryz.prog 76=32:=by kernel_rfl
theorem by9:iA Tryz.prog 9=16:=by kernel_rfl
theorem JD:bQ Tryz.prog 147=some 60:=by kernel_rfl
theorem Dv:bQ Tryz.prog 177=some 181:=by kernel_rfl
theorem Bc:bQ Tryz.prog 218=some 223:=by kernel_rfl
theorem I6:bQ Tryz.prog 22=some 3:=by kernel_rfl
theorem Ke:bQ Tryz.prog 272=some 316:=by kernel_rfl
theorem el67:bQ Tryz.prog 67=some 76:=by kernel_rfl
theorem el77:bQ Tryz.prog 77=some 151:=by kernel_rfl
theorem el79:bQ Tryz.prog 79=some 9:=by kernel_rfl
theorem Jm:bQ Tryz.prog 98=some 45:=by kernel_rfl
theorem M0:(bQ Tryz.prog 140).bind (szT Tryz.prog)=some 1:=by kernel_rfl
theorem EX:(bQ Tryz.prog 147).bind (szT Tryz.prog)=some 2:=by kernel_rfl
theorem Fx:(bQ Tryz.prog 158).bind (szT Tryz.prog)=some 3:=by kernel_rfl
theorem es161:(bQ Tryz.prog 161).bind (szT Tryz.prog)=some 1:=by kernel_rfl
theorem mO:(bQ Tryz.prog 177).bind (szT Tryz.prog)=some 3:=by kernel_rfl
theorem lV:(bQ Tryz.prog 218).bind (szT Tryz.prog)=some 2:=by kernel_rfl
theorem kE:(bQ Tryz.prog 22).bind (szT Tryz.prog)=some 1:=by kernel_rfl
theorem Mx:(bQ Tryz.prog 230).bind (szT Tryz.prog)=some 8:=by kernel_rfl
theorem Mc:(bQ Tryz.prog 260).bind (szT Tryz.prog)=some 1:=by kernel_rfl
theorem zn:(bQ Tryz.prog 272).bind (szT Tryz.prog)=some 2:=by kernel_rfl
theorem es56:(bQ Tryz.prog 56).bind (szT Tryz.prog)=some 9:=by kernel_rfl
theorem es63:(bQ Tryz.prog 63).bind (szT Tryz.prog)=some 3:=by kernel_rfl
theorem H6:(bQ Tryz.prog 67).bind (szT Tryz.prog)=some 3:=by kernel_rfl
theorem Er:(bQ Tryz.prog 77).bind (szT Tryz.prog)=some 13:=by kernel_rfl
theorem uQ:(bQ Tryz.prog 79).bind (szT Tryz.prog)=some 1:=by kernel_rfl
theorem Gz:(bQ Tryz.prog 98).bind (szT Tryz.prog)=some 4:=by kernel_rfl
theorem ez140:((bQ Tryz.prog 140).bind (zeroCells Tryz.prog)).isSome=true:=by kernel_rfl
theorem ez147:((bQ Tryz.prog 147).bind (zeroCells Tryz.prog)).isSome=true:=by kernel_rfl
theorem ez158:((bQ Tryz.prog 158).bind (zeroCells Tryz.prog)).isSome=true:=by kernel_rfl
theorem ez161:((bQ Tryz.prog 161).bind (zeroCells Tryz.prog)).isSome=true:=by kernel_rfl
theorem MH:((bQ Tryz.prog 177).bind (zeroCells Tryz.prog)).isSome=true:=by kernel_rfl
theorem JM:((bQ Tryz.prog 218).bind (zeroCells Tryz.prog)).isSome=true:=by kernel_rfl
theorem wo:((bQ Tryz.prog 22).bind (zeroCells Tryz.prog)).isSome=true:=by kernel_rfl
theorem ez230:((bQ Tryz.prog 230).bind (zeroCells Tryz.prog)).isSome=true:=by kernel_rfl
theorem ez260:((bQ Tryz.prog 260).bind (zeroCells Tryz.prog)).isSome=true:=by kernel_rfl
theorem ez272:((bQ Tryz.prog 272).bind (zeroCells Tryz.prog)).isSome=true:=by kernel_rfl
theorem ez56:((bQ Tryz.prog 56).bind (zeroCells Tryz.prog)).isSome=true:=by kernel_rfl
theorem ez63:((bQ Tryz.prog 63).bind (zeroCells Tryz.prog)).isSome=true:=by kernel_rfl
theorem ez67:((bQ Tryz.prog 67).bind (zeroCells Tryz.prog)).isSome=true:=by kernel_rfl
theorem ez77:((bQ Tryz.prog 77).bind (zeroCells Tryz.prog)).isSome=true:=by kernel_rfl
theorem IQ:((bQ Tryz.prog 79).bind (zeroCells Tryz.prog)).isSome=true:=by kernel_rfl
theorem ez98:((bQ Tryz.prog 98).bind (zeroCells Tryz.prog)).isSome=true:=by kernel_rfl
theorem fr181_0:Gn Tryz.prog 181 0=some (0,1,false):=by kernel_rfl
theorem Bd:aK Tryz.prog 101=true:=by kernel_rfl
theorem L8:aK Tryz.prog 107=true:=by kernel_rfl
theorem Mw:aK Tryz.prog 108=true:=by kernel_rfl
theorem hb109:aK Tryz.prog 109=true:=by kernel_rfl
theorem G8:aK Tryz.prog 114=true:=by kernel_rfl
theorem uA:aK Tryz.prog 125=true:=by kernel_rfl
theorem hb14:aK Tryz.prog 14=true:=by kernel_rfl
theorem hb145:aK Tryz.prog 145=true:=by kernel_rfl
theorem hb146:aK Tryz.prog 146=true:=by kernel_rfl
theorem hb147:aK Tryz.prog 147=true:=by kernel_rfl
theorem hb148:aK Tryz.prog 148=true:=by kernel_rfl
theorem hb151:aK Tryz.prog 151=true:=by kernel_rfl
theorem M4:aK Tryz.prog 152=true:=by kernel_rfl
theorem hb153:aK Tryz.prog 153=true:=by kernel_rfl
theorem Mg:aK Tryz.prog 154=true:=by kernel_rfl
theorem hb155:aK Tryz.prog 155=true:=by kernel_rfl
theorem hb156:aK Tryz.prog 156=true:=by kernel_rfl
theorem hb157:aK Tryz.prog 157=true:=by kernel_rfl
theorem hb158:aK Tryz.prog 158=true:=by kernel_rfl
theorem LW:aK Tryz.prog 159=true:=by kernel_rfl
theorem hb161:aK Tryz.prog 161=true:=by kernel_rfl
theorem hb162:aK Tryz.prog 162=true:=by kernel_rfl
theorem hb167:aK Tryz.prog 167=true:=by kernel_rfl
theorem hb169:aK Tryz.prog 169=true:=by kernel_rfl
theorem hb17:aK Tryz.prog 17=true:=by kernel_rfl
theorem M3:aK Tryz.prog 170=true:=by kernel_rfl
theorem hb171:aK Tryz.prog 171=true:=by kernel_rfl
theorem hb172:aK Tryz.prog 172=true:=by kernel_rfl
theorem hb173:aK Tryz.prog 173=true:=by kernel_rfl
theorem hb174:aK Tryz.prog 174=true:=by kernel_rfl
theorem MZ:aK Tryz.prog 175=true:=by kernel_rfl
theorem hb176:aK Tryz.prog 176=true:=by kernel_rfl
theorem hb177:aK Tryz.prog 177=true:=by kernel_rfl
theorem hb181:aK Tryz.prog 181=true:=by kernel_rfl
theorem hb182:aK Tryz.prog 182=true:=by kernel_rfl
theorem hb183:aK Tryz.prog 183=true:=by kernel_rfl
theorem JF:aK Tryz.prog 186=true:=by kernel_rfl
theorem Eu:aK Tryz.prog 19=true:=by kernel_rfl
theorem hb193:aK Tryz.prog 193=true:=by kernel_rfl
theorem hb194:aK Tryz.prog 194=true:=by kernel_rfl
theorem hb195:aK Tryz.prog 195=true:=by kernel_rfl
theorem hb197:aK Tryz.prog 197=true:=by kernel_rfl
theorem hb198:aK Tryz.prog 198=true:=by kernel_rfl
theorem hb199:aK Tryz.prog 199=true:=by kernel_rfl
theorem hb20:aK Tryz.prog 20=true:=by kernel_rfl
theorem hb200:aK Tryz.prog 200=true:=by kernel_rfl
theorem hb201:aK Tryz.prog 201=true:=by kernel_rfl
theorem hb202:aK Tryz.prog 202=true:=by kernel_rfl
theorem hb203:aK Tryz.prog 203=true:=by kernel_rfl
theorem hb204:aK Tryz.prog 204=true:=by kernel_rfl
theorem hb205:aK Tryz.prog 205=true:=by kernel_rfl
theorem hb206:aK Tryz.prog 206=true:=by kernel_rfl
theorem hb208:aK Tryz.prog 208=true:=by kernel_rfl
theorem hb211:aK Tryz.prog 211=true:=by kernel_rfl
theorem hb212:aK Tryz.prog 212=true:=by kernel_rfl
theorem hb220:aK Tryz.prog 220=true:=by kernel_rfl
theorem hb224:aK Tryz.prog 224=true:=by kernel_rfl
theorem hb227:aK Tryz.prog 227=true:=by kernel_rfl
theorem hb228:aK Tryz.prog 228=true:=by kernel_rfl
theorem hb229:aK Tryz.prog 229=true:=by kernel_rfl
theorem hb230:aK Tryz.prog 230=true:=by kernel_rfl
theorem hb249:aK Tryz.prog 249=true:=by kernel_rfl
theorem hb258:aK Tryz.prog 258=true:=by kernel_rfl
theorem hb263:aK Tryz.prog 263=true:=by kernel_rfl
theorem hb264:aK Tryz.prog 264=true:=by kernel_rfl
theorem hb265:aK Tryz.prog 265=true:=by kernel_rfl
theorem hb266:aK Tryz.prog 266=true:=by kernel_rfl
theorem hb267:aK Tryz.prog 267=true:=by kernel_rfl
theorem hb268:aK Tryz.prog 268=true:=by kernel_rfl
theorem hb269:aK Tryz.prog 269=true:=by kernel_rfl
theorem Dy:aK Tryz.prog 270=true:=by kernel_rfl
theorem hb272:aK Tryz.prog 272=true:=by kernel_rfl
theorem hb273:aK Tryz.prog 273=true:=by kernel_rfl
theorem hb286:aK Tryz.prog 286=true:=by kernel_rfl
theorem hb287:aK Tryz.prog 287=true:=by kernel_rfl
theorem hb304:aK Tryz.prog 304=true:=by kernel_rfl
theorem hb31:aK Tryz.prog 31=true:=by kernel_rfl
theorem hb312:aK Tryz.prog 312=true:=by kernel_rfl
theorem hb313:aK Tryz.prog 313=true:=by kernel_rfl
theorem hb32:aK Tryz.prog 32=true:=by kernel_rfl
theorem hb322:aK Tryz.prog 322=true:=by kernel_rfl
theorem hb323:aK Tryz.prog 323=true:=by kernel_rfl
theorem hb33:aK Tryz.prog 33=true:=by kernel_rfl
theorem hb34:aK Tryz.prog 34=true:=by kernel_rfl
theorem hb35:aK Tryz.prog 35=true:=by kernel_rfl
theorem hb36:aK Tryz.prog 36=true:=by kernel_rfl
theorem hb45:aK Tryz.prog 45=true:=by kernel_rfl
theorem hb47:aK Tryz.prog 47=true:=by kernel_rfl
theorem hb68:aK Tryz.prog 68=true:=by kernel_rfl
theorem hb69:aK Tryz.prog 69=true:=by kernel_rfl
theorem hb73:aK Tryz.prog 73=true:=by kernel_rfl
theorem hb77:aK Tryz.prog 77=true:=by kernel_rfl
theorem hb78:aK Tryz.prog 78=true:=by kernel_rfl
theorem hb79:aK Tryz.prog 79=true:=by kernel_rfl
theorem hb80:aK Tryz.prog 80=true:=by kernel_rfl
theorem MX:aK Tryz.prog 81=true:=by kernel_rfl
theorem hb83:aK Tryz.prog 83=true:=by kernel_rfl
theorem qM:aK Tryz.prog 84=true:=by kernel_rfl
theorem hb90:aK Tryz.prog 90=true:=by kernel_rfl
theorem hb91:aK Tryz.prog 91=true:=by kernel_rfl
theorem hb93:aK Tryz.prog 93=true:=by kernel_rfl
theorem hb94:aK Tryz.prog 94=true:=by kernel_rfl
theorem hb95:aK Tryz.prog 95=true:=by kernel_rfl
theorem hb96:aK Tryz.prog 96=true:=by kernel_rfl
theorem mt168:Iz Tryz.prog 168=some (9,4):=by kernel_rfl
theorem nb248:aK Tryz.prog 248=false:=by kernel_rfl
theorem xP:bJ Tryz.prog 100 0=some (0,1):=by kernel_rfl
theorem pl100_1:bJ Tryz.prog 100 1=some (1,1):=by kernel_rfl
theorem FY:bJ Tryz.prog 100 2=some (2,1):=by kernel_rfl
theorem Cj:bJ Tryz.prog 100 3=some (3,1):=by kernel_rfl
theorem zq:bJ Tryz.prog 100 4=some (4,1):=by kernel_rfl
theorem pl100_5:bJ Tryz.prog 100 5=some (5,1):=by kernel_rfl
theorem pl100_6:bJ Tryz.prog 100 6=some (6,1):=by kernel_rfl
theorem Cb:bJ Tryz.prog 100 7=some (7,1):=by kernel_rfl
theorem Gy:bJ Tryz.prog 100 8=some (8,1):=by kernel_rfl
theorem rZ:bJ Tryz.prog 151 0=some (0,1):=by kernel_rfl
theorem pl151_1:bJ Tryz.prog 151 1=some (1,1):=by kernel_rfl
theorem DU:bJ Tryz.prog 151 10=some (10,1):=by kernel_rfl
theorem zO:bJ Tryz.prog 151 11=some (11,1):=by kernel_rfl
theorem IB:bJ Tryz.prog 151 12=some (12,1):=by kernel_rfl
theorem pl151_2:bJ Tryz.prog 151 2=some (2,1):=by kernel_rfl
theorem xQ:bJ Tryz.prog 151 3=some (3,1):=by kernel_rfl
theorem xB:bJ Tryz.prog 151 4=some (4,1):=by kernel_rfl
theorem JU:bJ Tryz.prog 151 5=some (5,1):=by kernel_rfl
theorem J2:bJ Tryz.prog 151 6=some (6,1):=by kernel_rfl
theorem Ca:bJ Tryz.prog 151 7=some (7,1):=by kernel_rfl
theorem Gb:bJ Tryz.prog 151 8=some (8,1):=by kernel_rfl
theorem JV:bJ Tryz.prog 151 9=some (9,1):=by kernel_rfl
theorem FE:bJ Tryz.prog 154 0=some (0,1):=by kernel_rfl
theorem Kq:bJ Tryz.prog 154 1=some (1,1):=by kernel_rfl
theorem xy:bJ Tryz.prog 154 2=some (2,2):=by kernel_rfl
theorem pl154_3:bJ Tryz.prog 154 3=some (4,1):=by kernel_rfl
theorem GA:bJ Tryz.prog 154 4=some (5,1):=by kernel_rfl
theorem pl154_5:bJ Tryz.prog 154 5=some (6,1):=by kernel_rfl
theorem pl154_6:bJ Tryz.prog 154 6=some (7,1):=by kernel_rfl
theorem xL:bJ Tryz.prog 157 0=some (0,1):=by kernel_rfl
theorem zt:bJ Tryz.prog 157 1=some (1,1):=by kernel_rfl
theorem zo:bJ Tryz.prog 157 2=some (2,1):=by kernel_rfl
theorem xA:bJ Tryz.prog 181 0=some (0,1):=by kernel_rfl
theorem uL:bJ Tryz.prog 181 1=some (1,2):=by kernel_rfl
theorem lc:bJ Tryz.prog 223 0=some (0,1):=by kernel_rfl
theorem qI:bJ Tryz.prog 223 1=some (1,1):=by kernel_rfl
theorem FT:bJ Tryz.prog 25 0=some (0,1):=by kernel_rfl
theorem Dl:bJ Tryz.prog 25 1=some (1,1):=by kernel_rfl
theorem su:bJ Tryz.prog 316 0=some (0,1):=by kernel_rfl
theorem uV:bJ Tryz.prog 316 1=some (1,1):=by kernel_rfl
theorem Ak:bJ Tryz.prog 45 0=some (0,1):=by kernel_rfl
theorem wQ:bJ Tryz.prog 45 1=some (1,1):=by kernel_rfl
theorem GJ:bJ Tryz.prog 45 2=some (2,1):=by kernel_rfl
theorem Ed:bJ Tryz.prog 45 3=some (3,1):=by kernel_rfl
theorem gq:bJ Tryz.prog 60 0=some (0,1):=by kernel_rfl
theorem iC:bJ Tryz.prog 60 1=some (1,1):=by kernel_rfl
theorem Jv:bJ Tryz.prog 66 0=some (0,1):=by kernel_rfl
theorem Jw:bJ Tryz.prog 66 1=some (1,1):=by kernel_rfl
theorem Js:bJ Tryz.prog 66 2=some (2,1):=by kernel_rfl
theorem tC:bJ Tryz.prog 76 0=some (0,2):=by kernel_rfl
theorem FW:bJ Tryz.prog 76 1=some (2,1):=by kernel_rfl
theorem pl81_0:bJ Tryz.prog 81 0=some (0,1):=by kernel_rfl
theorem pl81_1:bJ Tryz.prog 81 1=some (1,1):=by kernel_rfl
theorem JA:bJ Tryz.prog 81 2=some (2,1):=by kernel_rfl
theorem LU:bJ Tryz.prog 81 3=some (3,1):=by kernel_rfl
theorem vT:szT Tryz.prog 100=some 9:=by kernel_rfl
theorem qy:szT Tryz.prog 151=some 13:=by kernel_rfl
theorem JK:szT Tryz.prog 154=some 8:=by kernel_rfl
theorem EA:szT Tryz.prog 157=some 3:=by kernel_rfl
theorem Fh:szT Tryz.prog 179=some 1:=by kernel_rfl
theorem iO:szT Tryz.prog 181=some 3:=by kernel_rfl
theorem yK:szT Tryz.prog 22=some 1:=by kernel_rfl
theorem nE:szT Tryz.prog 223=some 2:=by kernel_rfl
theorem sz3:szT Tryz.prog 3=some 1:=by kernel_rfl
theorem EH:szT Tryz.prog 316=some 2:=by kernel_rfl
theorem sz35:szT Tryz.prog 35=some 1:=by kernel_rfl
theorem sz4:szT Tryz.prog 4=some 1:=by kernel_rfl
theorem wI:szT Tryz.prog 45=some 4:=by kernel_rfl
theorem kW:szT Tryz.prog 60=some 2:=by kernel_rfl
theorem sz66:szT Tryz.prog 66=some 3:=by kernel_rfl
theorem sz76:szT Tryz.prog 76=some 3:=by kernel_rfl
theorem BJ:szT Tryz.prog 79=some 1:=by kernel_rfl
theorem tN:szT Tryz.prog 81=some 4:=by kernel_rfl
theorem sz9:szT Tryz.prog 9=some 1:=by kernel_rfl
theorem K8:szT Tryz.prog 98=some 1:=by kernel_rfl
theorem un140:(Tryz.prog).underlying 140=some (.slice 35):=by kernel_rfl
theorem J4:(Tryz.prog).underlying 147=some (.slice 60):=by kernel_rfl
theorem MB:(Tryz.prog).underlying 158=some (.slice 157):=by kernel_rfl
theorem sG:(Tryz.prog).underlying 177=some (.slice 181):=by kernel_rfl
theorem yE:(Tryz.prog).underlying 218=some (.slice 223):=by kernel_rfl
theorem wy:(Tryz.prog).underlying 22=some (.slice 3):=by kernel_rfl
theorem un230:(Tryz.prog).underlying 230=some (.slice 154):=by kernel_rfl
theorem ED:(Tryz.prog).underlying 238=some (.int .u64):=by kernel_rfl
theorem un260:(Tryz.prog).underlying 260=some (.slice 98):=by kernel_rfl
theorem Me:(Tryz.prog).underlying 272=some (.slice 316):=by kernel_rfl
theorem zT:(Tryz.prog).underlying 289=some (.int .u64):=by kernel_rfl
theorem un3:(Tryz.prog).underlying 3=some (.int .i64):=by kernel_rfl
theorem un4:(Tryz.prog).underlying 4=some .bool:=by kernel_rfl
theorem un5:(Tryz.prog).underlying 5=some (.int .u8):=by kernel_rfl
theorem un56:(Tryz.prog).underlying 56=some (.slice 100):=by kernel_rfl
theorem un63:(Tryz.prog).underlying 63=some (.slice 66):=by kernel_rfl
theorem un67:(Tryz.prog).underlying 67=some (.slice 76):=by kernel_rfl
theorem un77:(Tryz.prog).underlying 77=some (.slice 151):=by kernel_rfl
theorem BM:(Tryz.prog).underlying 79=some (.slice 9):=by kernel_rfl
theorem un9:(Tryz.prog).underlying 9=some .string:=by kernel_rfl
theorem Aq:(Tryz.prog).underlying 98=some (.slice 45):=by kernel_rfl
theorem z100:zeroCells Tryz.prog 100=some [.d (.str ⟨#[]⟩),.d (.str ⟨#[]⟩),.d (.int .i64 0),.nil,.d (.int .i64 0),.d (.int .i64 0),.d (.int .i64 0),.nil,.d (.str ⟨#[]⟩)]:=by kernel_rfl
theorem z151:zeroCells Tryz.prog 151=some [.d (.str ⟨#[]⟩),.d (.str ⟨#[]⟩),.d (.int .i64 0),.d (.int .i64 0),.d (.int .i64 0),.d (.int .i64 0),.d (.int .i64 0),.nil,.d (.int .i64 0),.d (.int .i64 0),.d (.int .i64 0),.nil,.d (.bool false)]:=by kernel_rfl
theorem z154:zeroCells Tryz.prog 154=some [.d (.str ⟨#[]⟩),.d (.str ⟨#[]⟩),.d (.int .i64 0),.d (.int .i64 0),.nil,.d (.int .i64 0),.d (.int .i64 0),.d (.int .i64 0)]:=by kernel_rfl
theorem z157:zeroCells Tryz.prog 157=some [.d (.str ⟨#[]⟩),.d (.int .i64 0),.d (.int .i64 0)]:=by kernel_rfl
theorem F4:zeroCells Tryz.prog 181=some [.d .nilp,.d (.int .i64 0),.d (.int .i64 0)]:=by kernel_rfl
theorem z22:zeroCells Tryz.prog 22=some [.nil]:=by kernel_rfl
theorem IJ:zeroCells Tryz.prog 223=some [.d (.int .i64 0),.d (.int .i64 0)]:=by kernel_rfl
theorem z3:zeroCells Tryz.prog 3=some [.d (.int .i64 0)]:=by kernel_rfl
theorem z316:zeroCells Tryz.prog 316=some [.d (.int .i64 0),.d (.int .i64 0)]:=by kernel_rfl
theorem z45:zeroCells Tryz.prog 45=some [.d (.int .i64 0),.d (.int .i64 0),.d (.int .i64 0),.d (.int .i64 0)]:=by kernel_rfl
theorem z60:zeroCells Tryz.prog 60=some [.d (.int .i64 0),.d (.int .i64 0)]:=by kernel_rfl
theorem z66:zeroCells Tryz.prog 66=some [.d (.str ⟨#[]⟩),.d (.int .i64 0),.d (.int .i64 0)]:=by kernel_rfl
theorem z76:zeroCells Tryz.prog 76=some [.d (.int .i64 0),.d (.int .i64 0),.d (.str ⟨#[]⟩)]:=by kernel_rfl
theorem z81:zeroCells Tryz.prog 81=some [.d (.str ⟨#[]⟩),.d (.str ⟨#[]⟩),.d (.int .i64 0),.nil]:=by kernel_rfl
theorem z9:zeroCells Tryz.prog 9=some [.d (.str ⟨#[]⟩)]:=by kernel_rfl
theorem Ie:∀ w0,Go.Eng.J5 w0 → ∃ m,w0.cell? ⟨0,0,none⟩=some (.int .i64 m):=fun _ h=>h
end Go.Proofs.YtjhcehhmdmbleaaGreatDoor.Law

