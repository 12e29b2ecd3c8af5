/-
  Closed facts on the types and functions of the program.
-/
import Derived.Test.YtjhcehhmdmbleaaGreatDoorProg
import Derived.Test.YtjhcehhmdmbleaaGreatDoorEng5
open Go Go.Eng Go.Proofs
namespace Go.Proofs.YtjhcehhmdmbleaaGreatDoor.Law
set_option maxRecDepth 100000
set_option linter.unusedVariables false
set_option maxHeartbeats 1000000
theorem kC:bQ Tryz.prog 100=true:=by kernel_rfl
theorem CR:bQ Tryz.prog 151=true:=by kernel_rfl
theorem JE:bQ Tryz.prog 154=true:=by kernel_rfl
theorem Il:bQ Tryz.prog 157=true:=by kernel_rfl
theorem ag191:bQ Tryz.prog 191=true:=by kernel_rfl
theorem IM:bQ Tryz.prog 22=false:=by kernel_rfl
theorem vv:bQ Tryz.prog 223=true:=by kernel_rfl
theorem ag3:bQ Tryz.prog 3=false:=by kernel_rfl
theorem ag316:bQ Tryz.prog 316=true:=by kernel_rfl
theorem ag35:bQ Tryz.prog 35=false:=by kernel_rfl
theorem ag4:bQ Tryz.prog 4=false:=by kernel_rfl
theorem DK:bQ Tryz.prog 45=true:=by kernel_rfl
theorem Dy:bQ Tryz.prog 60=true:=by kernel_rfl
theorem Ch:bQ Tryz.prog 66=true:=by kernel_rfl
theorem DD:bQ Tryz.prog 79=false:=by kernel_rfl
theorem ag9:bQ Tryz.prog 9=false:=by kernel_rfl
theorem ag91:bQ Tryz.prog 91=true:=by kernel_rfl
theorem ag96:bQ Tryz.prog 96=true:=by kernel_rfl
theorem Gi:bQ Tryz.prog 98=false:=by kernel_rfl
theorem by100:gy Tryz.prog 100=128:=by kernel_rfl
theorem Hz:gy Tryz.prog 223=16:=by kernel_rfl
theorem by3:gy Tryz.prog 3=8:=by kernel_rfl
theorem by316:gy Tryz.prog 316=16:=by kernel_rfl
theorem by45:gy Tryz.prog 45=32:=by kernel_rfl
theorem by60:gy Tryz.prog 60=16:=by kernel_rfl
theorem by66:gy Tryz.prog 66=32:=by kernel_rfl
theorem by9:gy Tryz.prog 9=16:=by kernel_rfl
theorem by91:gy Tryz.prog 91=48:=by kernel_rfl
theorem by96:gy Tryz.prog 96=48:=by kernel_rfl
theorem el147:bN Tryz.prog 147=some 60:=by kernel_rfl
theorem zf:bN Tryz.prog 218=some 223:=by kernel_rfl
theorem Lu:bN Tryz.prog 22=some 3:=by kernel_rfl
theorem Io:bN Tryz.prog 272=some 316:=by kernel_rfl
theorem el56:bN Tryz.prog 56=some 100:=by kernel_rfl
theorem el63:bN Tryz.prog 63=some 66:=by kernel_rfl
theorem el79:bN Tryz.prog 79=some 9:=by kernel_rfl
theorem el89:bN Tryz.prog 89=some 91:=by kernel_rfl
theorem el92:bN Tryz.prog 92=some 96:=by kernel_rfl
theorem C9:bN Tryz.prog 98=some 45:=by kernel_rfl
theorem es140:(bN Tryz.prog 140).bind (szT Tryz.prog)=some 1:=by kernel_rfl
theorem JH:(bN Tryz.prog 147).bind (szT Tryz.prog)=some 2:=by kernel_rfl
theorem CE:(bN Tryz.prog 158).bind (szT Tryz.prog)=some 3:=by kernel_rfl
theorem kP:(bN Tryz.prog 218).bind (szT Tryz.prog)=some 2:=by kernel_rfl
theorem nM:(bN Tryz.prog 22).bind (szT Tryz.prog)=some 1:=by kernel_rfl
theorem JO:(bN Tryz.prog 230).bind (szT Tryz.prog)=some 8:=by kernel_rfl
theorem JV:(bN Tryz.prog 260).bind (szT Tryz.prog)=some 1:=by kernel_rfl
theorem xZ:(bN Tryz.prog 272).bind (szT Tryz.prog)=some 2:=by kernel_rfl
theorem uF:(bN Tryz.prog 56).bind (szT Tryz.prog)=some 9:=by kernel_rfl
theorem Er:(bN Tryz.prog 63).bind (szT Tryz.prog)=some 3:=by kernel_rfl
theorem es77:(bN Tryz.prog 77).bind (szT Tryz.prog)=some 13:=by kernel_rfl
theorem q8:(bN Tryz.prog 79).bind (szT Tryz.prog)=some 1:=by kernel_rfl
theorem K9:(bN Tryz.prog 89).bind (szT Tryz.prog)=some 4:=by kernel_rfl
theorem es92:(bN Tryz.prog 92).bind (szT Tryz.prog)=some 4:=by kernel_rfl
theorem Cj:(bN Tryz.prog 98).bind (szT Tryz.prog)=some 4:=by kernel_rfl
theorem ez140:((bN Tryz.prog 140).bind (zeroCells Tryz.prog)).isSome=true:=by kernel_rfl
theorem ez147:((bN Tryz.prog 147).bind (zeroCells Tryz.prog)).isSome=true:=by kernel_rfl
theorem ez158:((bN Tryz.prog 158).bind (zeroCells Tryz.prog)).isSome=true:=by kernel_rfl
theorem Iu:((bN Tryz.prog 218).bind (zeroCells Tryz.prog)).isSome=true:=by kernel_rfl
theorem Di:((bN Tryz.prog 22).bind (zeroCells Tryz.prog)).isSome=true:=by kernel_rfl
theorem ez230:((bN Tryz.prog 230).bind (zeroCells Tryz.prog)).isSome=true:=by kernel_rfl
theorem ez260:((bN Tryz.prog 260).bind (zeroCells Tryz.prog)).isSome=true:=by kernel_rfl
theorem ez272:((bN Tryz.prog 272).bind (zeroCells Tryz.prog)).isSome=true:=by kernel_rfl
theorem ez56:((bN Tryz.prog 56).bind (zeroCells Tryz.prog)).isSome=true:=by kernel_rfl
theorem ez63:((bN Tryz.prog 63).bind (zeroCells Tryz.prog)).isSome=true:=by kernel_rfl
theorem ez77:((bN Tryz.prog 77).bind (zeroCells Tryz.prog)).isSome=true:=by kernel_rfl
theorem BS:((bN Tryz.prog 79).bind (zeroCells Tryz.prog)).isSome=true:=by kernel_rfl
theorem ez89:((bN Tryz.prog 89).bind (zeroCells Tryz.prog)).isSome=true:=by kernel_rfl
theorem ez92:((bN Tryz.prog 92).bind (zeroCells Tryz.prog)).isSome=true:=by kernel_rfl
theorem ez98:((bN Tryz.prog 98).bind (zeroCells Tryz.prog)).isSome=true:=by kernel_rfl
theorem hb100:aJ Tryz.prog 100=true:=by kernel_rfl
theorem xK:aJ Tryz.prog 101=true:=by kernel_rfl
theorem hb102:aJ Tryz.prog 102=true:=by kernel_rfl
theorem hb103:aJ Tryz.prog 103=true:=by kernel_rfl
theorem hb104:aJ Tryz.prog 104=true:=by kernel_rfl
theorem hb105:aJ Tryz.prog 105=true:=by kernel_rfl
theorem hb106:aJ Tryz.prog 106=true:=by kernel_rfl
theorem HZ:aJ Tryz.prog 107=true:=by kernel_rfl
theorem CG:aJ Tryz.prog 108=true:=by kernel_rfl
theorem hb109:aJ Tryz.prog 109=true:=by kernel_rfl
theorem hb113:aJ Tryz.prog 113=true:=by kernel_rfl
theorem J7:aJ Tryz.prog 114=true:=by kernel_rfl
theorem hb121:aJ Tryz.prog 121=true:=by kernel_rfl
theorem rV:aJ Tryz.prog 125=true:=by kernel_rfl
theorem hb14:aJ Tryz.prog 14=true:=by kernel_rfl
theorem hb145:aJ Tryz.prog 145=true:=by kernel_rfl
theorem hb146:aJ Tryz.prog 146=true:=by kernel_rfl
theorem hb147:aJ Tryz.prog 147=true:=by kernel_rfl
theorem hb148:aJ Tryz.prog 148=true:=by kernel_rfl
theorem hb151:aJ Tryz.prog 151=true:=by kernel_rfl
theorem hb152:aJ Tryz.prog 152=true:=by kernel_rfl
theorem hb153:aJ Tryz.prog 153=true:=by kernel_rfl
theorem hb154:aJ Tryz.prog 154=true:=by kernel_rfl
theorem hb155:aJ Tryz.prog 155=true:=by kernel_rfl
theorem hb156:aJ Tryz.prog 156=true:=by kernel_rfl
theorem hb157:aJ Tryz.prog 157=true:=by kernel_rfl
theorem hb158:aJ Tryz.prog 158=true:=by kernel_rfl
theorem J8:aJ Tryz.prog 159=true:=by kernel_rfl
theorem hb161:aJ Tryz.prog 161=true:=by kernel_rfl
theorem hb162:aJ Tryz.prog 162=true:=by kernel_rfl
theorem hb167:aJ Tryz.prog 167=true:=by kernel_rfl
theorem hb17:aJ Tryz.prog 17=true:=by kernel_rfl
theorem hb178:aJ Tryz.prog 178=true:=by kernel_rfl
theorem hb179:aJ Tryz.prog 179=true:=by kernel_rfl
theorem hb181:aJ Tryz.prog 181=true:=by kernel_rfl
theorem hb182:aJ Tryz.prog 182=true:=by kernel_rfl
theorem hb183:aJ Tryz.prog 183=true:=by kernel_rfl
theorem IJ:aJ Tryz.prog 186=true:=by kernel_rfl
theorem hb19:aJ Tryz.prog 19=true:=by kernel_rfl
theorem hb193:aJ Tryz.prog 193=true:=by kernel_rfl
theorem hb194:aJ Tryz.prog 194=true:=by kernel_rfl
theorem hb195:aJ Tryz.prog 195=true:=by kernel_rfl
theorem hb197:aJ Tryz.prog 197=true:=by kernel_rfl
theorem hb198:aJ Tryz.prog 198=true:=by kernel_rfl
theorem hb199:aJ Tryz.prog 199=true:=by kernel_rfl
theorem hb20:aJ Tryz.prog 20=true:=by kernel_rfl
theorem hb200:aJ Tryz.prog 200=true:=by kernel_rfl
theorem hb201:aJ Tryz.prog 201=true:=by kernel_rfl
theorem hb202:aJ Tryz.prog 202=true:=by kernel_rfl
theorem hb203:aJ Tryz.prog 203=true:=by kernel_rfl
theorem hb204:aJ Tryz.prog 204=true:=by kernel_rfl
theorem hb205:aJ Tryz.prog 205=true:=by kernel_rfl
theorem hb206:aJ Tryz.prog 206=true:=by kernel_rfl
theorem hb208:aJ Tryz.prog 208=true:=by kernel_rfl
theorem hb211:aJ Tryz.prog 211=true:=by kernel_rfl
theorem hb212:aJ Tryz.prog 212=true:=by kernel_rfl
theorem hb220:aJ Tryz.prog 220=true:=by kernel_rfl
theorem hb224:aJ Tryz.prog 224=true:=by kernel_rfl
theorem hb227:aJ Tryz.prog 227=true:=by kernel_rfl
theorem hb231:aJ Tryz.prog 231=true:=by kernel_rfl
theorem hb239:aJ Tryz.prog 239=true:=by kernel_rfl
theorem hb249:aJ Tryz.prog 249=true:=by kernel_rfl
theorem hb263:aJ Tryz.prog 263=true:=by kernel_rfl
theorem hb264:aJ Tryz.prog 264=true:=by kernel_rfl
theorem hb265:aJ Tryz.prog 265=true:=by kernel_rfl
theorem hb266:aJ Tryz.prog 266=true:=by kernel_rfl
theorem hb267:aJ Tryz.prog 267=true:=by kernel_rfl
theorem hb268:aJ Tryz.prog 268=true:=by kernel_rfl
theorem hb269:aJ Tryz.prog 269=true:=by kernel_rfl
theorem Ba:aJ Tryz.prog 270=true:=by kernel_rfl
theorem hb272:aJ Tryz.prog 272=true:=by kernel_rfl
theorem hb273:aJ Tryz.prog 273=true:=by kernel_rfl
theorem hb304:aJ Tryz.prog 304=true:=by kernel_rfl
theorem hb312:aJ Tryz.prog 312=true:=by kernel_rfl
theorem hb313:aJ Tryz.prog 313=true:=by kernel_rfl
theorem zJ:aJ Tryz.prog 34=true:=by kernel_rfl
theorem hb38:aJ Tryz.prog 38=true:=by kernel_rfl
theorem hb39:aJ Tryz.prog 39=true:=by kernel_rfl
theorem hb40:aJ Tryz.prog 40=true:=by kernel_rfl
theorem hb41:aJ Tryz.prog 41=true:=by kernel_rfl
theorem hb42:aJ Tryz.prog 42=true:=by kernel_rfl
theorem hb43:aJ Tryz.prog 43=true:=by kernel_rfl
theorem hb44:aJ Tryz.prog 44=true:=by kernel_rfl
theorem hb45:aJ Tryz.prog 45=true:=by kernel_rfl
theorem hb47:aJ Tryz.prog 47=true:=by kernel_rfl
theorem hb52:aJ Tryz.prog 52=true:=by kernel_rfl
theorem hb68:aJ Tryz.prog 68=true:=by kernel_rfl
theorem hb69:aJ Tryz.prog 69=true:=by kernel_rfl
theorem hb73:aJ Tryz.prog 73=true:=by kernel_rfl
theorem hb77:aJ Tryz.prog 77=true:=by kernel_rfl
theorem hb78:aJ Tryz.prog 78=true:=by kernel_rfl
theorem hb79:aJ Tryz.prog 79=true:=by kernel_rfl
theorem hb80:aJ Tryz.prog 80=true:=by kernel_rfl
theorem hb81:aJ Tryz.prog 81=true:=by kernel_rfl
theorem hb83:aJ Tryz.prog 83=true:=by kernel_rfl
theorem pM:aJ Tryz.prog 84=true:=by kernel_rfl
theorem hb90:aJ Tryz.prog 90=true:=by kernel_rfl
theorem hb91:aJ Tryz.prog 91=true:=by kernel_rfl
theorem hb97:aJ Tryz.prog 97=true:=by kernel_rfl
theorem hb98:aJ Tryz.prog 98=true:=by kernel_rfl
theorem hb99:aJ Tryz.prog 99=true:=by kernel_rfl
theorem mt168:Eb Tryz.prog 168=some (9,4):=by kernel_rfl
theorem J9:Eb Tryz.prog 185=some (191,3):=by kernel_rfl
theorem nb248:aJ Tryz.prog 248=false:=by kernel_rfl
theorem lD:bB Tryz.prog 100 0=some (0,1):=by kernel_rfl
theorem Dq:bB Tryz.prog 100 1=some (1,1):=by kernel_rfl
theorem vz:bB Tryz.prog 100 2=some (2,1):=by kernel_rfl
theorem p8:bB Tryz.prog 100 3=some (3,1):=by kernel_rfl
theorem jU:bB Tryz.prog 100 4=some (4,1):=by kernel_rfl
theorem Ep:bB Tryz.prog 100 5=some (5,1):=by kernel_rfl
theorem pl100_6:bB Tryz.prog 100 6=some (6,1):=by kernel_rfl
theorem vH:bB Tryz.prog 100 7=some (7,1):=by kernel_rfl
theorem zT:bB Tryz.prog 100 8=some (8,1):=by kernel_rfl
theorem Dh:bB Tryz.prog 151 0=some (0,1):=by kernel_rfl
theorem pl151_1:bB Tryz.prog 151 1=some (1,1):=by kernel_rfl
theorem KD:bB Tryz.prog 151 10=some (10,1):=by kernel_rfl
theorem JU:bB Tryz.prog 151 11=some (11,1):=by kernel_rfl
theorem KE:bB Tryz.prog 151 12=some (12,1):=by kernel_rfl
theorem pl151_2:bB Tryz.prog 151 2=some (2,1):=by kernel_rfl
theorem zY:bB Tryz.prog 151 3=some (3,1):=by kernel_rfl
theorem zQ:bB Tryz.prog 151 4=some (4,1):=by kernel_rfl
theorem H6:bB Tryz.prog 151 5=some (5,1):=by kernel_rfl
theorem Hr:bB Tryz.prog 151 6=some (6,1):=by kernel_rfl
theorem Iq:bB Tryz.prog 151 7=some (7,1):=by kernel_rfl
theorem Dt:bB Tryz.prog 151 8=some (8,1):=by kernel_rfl
theorem Ie:bB Tryz.prog 151 9=some (9,1):=by kernel_rfl
theorem DI:bB Tryz.prog 154 0=some (0,1):=by kernel_rfl
theorem Ir:bB Tryz.prog 154 1=some (1,1):=by kernel_rfl
theorem vC:bB Tryz.prog 154 2=some (2,2):=by kernel_rfl
theorem pl154_3:bB Tryz.prog 154 3=some (4,1):=by kernel_rfl
theorem Ed:bB Tryz.prog 154 4=some (5,1):=by kernel_rfl
theorem pl154_5:bB Tryz.prog 154 5=some (6,1):=by kernel_rfl
theorem pl154_6:bB Tryz.prog 154 6=some (7,1):=by kernel_rfl
theorem vF:bB Tryz.prog 157 0=some (0,1):=by kernel_rfl
theorem xS:bB Tryz.prog 157 1=some (1,1):=by kernel_rfl
theorem yj:bB Tryz.prog 157 2=some (2,1):=by kernel_rfl
theorem kE:bB Tryz.prog 223 0=some (0,1):=by kernel_rfl
theorem pU:bB Tryz.prog 223 1=some (1,1):=by kernel_rfl
theorem Dw:bB Tryz.prog 25 0=some (0,1):=by kernel_rfl
theorem Aw:bB Tryz.prog 25 1=some (1,1):=by kernel_rfl
theorem qU:bB Tryz.prog 316 0=some (0,1):=by kernel_rfl
theorem uf:bB Tryz.prog 316 1=some (1,1):=by kernel_rfl
theorem yY:bB Tryz.prog 45 0=some (0,1):=by kernel_rfl
theorem uI:bB Tryz.prog 45 1=some (1,1):=by kernel_rfl
theorem Ej:bB Tryz.prog 45 2=some (2,1):=by kernel_rfl
theorem Ar:bB Tryz.prog 45 3=some (3,1):=by kernel_rfl
theorem nZ:bB Tryz.prog 60 0=some (0,1):=by kernel_rfl
theorem ol:bB Tryz.prog 60 1=some (1,1):=by kernel_rfl
theorem uh:bB Tryz.prog 66 0=some (0,1):=by kernel_rfl
theorem Gg:bB Tryz.prog 66 1=some (1,1):=by kernel_rfl
theorem Gu:bB Tryz.prog 66 2=some (2,1):=by kernel_rfl
theorem Dp:bB Tryz.prog 91 0=some (0,1):=by kernel_rfl
theorem DL:bB Tryz.prog 91 1=some (1,1):=by kernel_rfl
theorem Ec:bB Tryz.prog 91 2=some (2,1):=by kernel_rfl
theorem JJ:bB Tryz.prog 91 3=some (3,1):=by kernel_rfl
theorem GI:bB Tryz.prog 96 0=some (0,1):=by kernel_rfl
theorem G5:bB Tryz.prog 96 1=some (1,1):=by kernel_rfl
theorem G8:bB Tryz.prog 96 2=some (2,1):=by kernel_rfl
theorem Ld:bB Tryz.prog 96 3=some (3,1):=by kernel_rfl
theorem gX:szT Tryz.prog 100=some 9:=by kernel_rfl
theorem AA:szT Tryz.prog 151=some 13:=by kernel_rfl
theorem H7:szT Tryz.prog 154=some 8:=by kernel_rfl
theorem CW:szT Tryz.prog 157=some 3:=by kernel_rfl
theorem Lj:szT Tryz.prog 191=some 2:=by kernel_rfl
theorem IX:szT Tryz.prog 22=some 1:=by kernel_rfl
theorem mG:szT Tryz.prog 223=some 2:=by kernel_rfl
theorem sz3:szT Tryz.prog 3=some 1:=by kernel_rfl
theorem Cv:szT Tryz.prog 316=some 2:=by kernel_rfl
theorem sz35:szT Tryz.prog 35=some 1:=by kernel_rfl
theorem sz4:szT Tryz.prog 4=some 1:=by kernel_rfl
theorem rF:szT Tryz.prog 45=some 4:=by kernel_rfl
theorem xy:szT Tryz.prog 60=some 2:=by kernel_rfl
theorem wZ:szT Tryz.prog 66=some 3:=by kernel_rfl
theorem Bu:szT Tryz.prog 79=some 1:=by kernel_rfl
theorem sz9:szT Tryz.prog 9=some 1:=by kernel_rfl
theorem EC:szT Tryz.prog 91=some 4:=by kernel_rfl
theorem sz96:szT Tryz.prog 96=some 4:=by kernel_rfl
theorem FT:szT Tryz.prog 98=some 1:=by kernel_rfl
theorem un140:(Tryz.prog).underlying 140=some (.slice 35):=by kernel_rfl
theorem un147:(Tryz.prog).underlying 147=some (.slice 60):=by kernel_rfl
theorem JI:(Tryz.prog).underlying 158=some (.slice 157):=by kernel_rfl
theorem wK:(Tryz.prog).underlying 218=some (.slice 223):=by kernel_rfl
theorem vZ:(Tryz.prog).underlying 22=some (.slice 3):=by kernel_rfl
theorem un230:(Tryz.prog).underlying 230=some (.slice 154):=by kernel_rfl
theorem Hf:(Tryz.prog).underlying 238=some (.int .u64):=by kernel_rfl
theorem un260:(Tryz.prog).underlying 260=some (.slice 98):=by kernel_rfl
theorem JK:(Tryz.prog).underlying 272=some (.slice 316):=by kernel_rfl
theorem yl:(Tryz.prog).underlying 289=some (.int .u64):=by kernel_rfl
theorem un3:(Tryz.prog).underlying 3=some (.int .i64):=by kernel_rfl
theorem un4:(Tryz.prog).underlying 4=some .bool:=by kernel_rfl
theorem un5:(Tryz.prog).underlying 5=some (.int .u8):=by kernel_rfl
theorem FN:(Tryz.prog).underlying 56=some (.slice 100):=by kernel_rfl
theorem Jw:(Tryz.prog).underlying 63=some (.slice 66):=by kernel_rfl
theorem un77:(Tryz.prog).underlying 77=some (.slice 151):=by kernel_rfl
theorem xu:(Tryz.prog).underlying 79=some (.slice 9):=by kernel_rfl
theorem un89:(Tryz.prog).underlying 89=some (.slice 91):=by kernel_rfl
theorem un9:(Tryz.prog).underlying 9=some .string:=by kernel_rfl
theorem un92:(Tryz.prog).underlying 92=some (.slice 96):=by kernel_rfl
theorem yI:(Tryz.prog).underlying 98=some (.slice 45):=by kernel_rfl
theorem FR:zeroCells Tryz.prog 100=some [.d (.str ⟨#[]⟩),.d (.str ⟨#[]⟩),.d (.int .i64 0),.nil,.d (.int .i64 0),.d (.int .i64 0),.d (.int .i64 0),.nil,.d (.str ⟨#[]⟩)]:=by kernel_rfl
theorem z151:zeroCells Tryz.prog 151=some [.d (.str ⟨#[]⟩),.d (.str ⟨#[]⟩),.d (.int .i64 0),.d (.int .i64 0),.d (.int .i64 0),.d (.int .i64 0),.d (.int .i64 0),.nil,.d (.int .i64 0),.d (.int .i64 0),.d (.int .i64 0),.nil,.d (.bool false)]:=by kernel_rfl
theorem z154:zeroCells Tryz.prog 154=some [.d (.str ⟨#[]⟩),.d (.str ⟨#[]⟩),.d (.int .i64 0),.d (.int .i64 0),.nil,.d (.int .i64 0),.d (.int .i64 0),.d (.int .i64 0)]:=by kernel_rfl
theorem z157:zeroCells Tryz.prog 157=some [.d (.str ⟨#[]⟩),.d (.int .i64 0),.d (.int .i64 0)]:=by kernel_rfl
theorem z191:zeroCells Tryz.prog 191=some [.d (.str ⟨#[]⟩),.d (.str ⟨#[]⟩)]:=by kernel_rfl
theorem GZ:zeroCells Tryz.prog 223=some [.d (.int .i64 0),.d (.int .i64 0)]:=by kernel_rfl
theorem z3:zeroCells Tryz.prog 3=some [.d (.int .i64 0)]:=by kernel_rfl
theorem z316:zeroCells Tryz.prog 316=some [.d (.int .i64 0),.d (.int .i64 0)]:=by kernel_rfl
theorem z45:zeroCells Tryz.prog 45=some [.d (.int .i64 0),.d (.int .i64 0),.d (.int .i64 0),.d (.int .i64 0)]:=by kernel_rfl
theorem z60:zeroCells Tryz.prog 60=some [.d (.int .i64 0),.d (.int .i64 0)]:=by kernel_rfl
theorem z66:zeroCells Tryz.prog 66=some [.d (.str ⟨#[]⟩),.d (.int .i64 0),.d (.int .i64 0)]:=by kernel_rfl
theorem z9:zeroCells Tryz.prog 9=some [.d (.str ⟨#[]⟩)]:=by kernel_rfl
theorem z91:zeroCells Tryz.prog 91=some [.d (.str ⟨#[]⟩),.d (.str ⟨#[]⟩),.d (.int .i64 0),.d (.bool false)]:=by kernel_rfl
theorem z96:zeroCells Tryz.prog 96=some [.d (.str ⟨#[]⟩),.d (.str ⟨#[]⟩),.d (.int .i64 0),.d (.int .i64 0)]:=by kernel_rfl
theorem FE:∀ w0,Go.Eng.Ih w0 → ∃ m,w0.cell? ⟨0,0,none⟩=some (.int .i64 m):=fun _ h=>h
end Go.Proofs.YtjhcehhmdmbleaaGreatDoor.Law

