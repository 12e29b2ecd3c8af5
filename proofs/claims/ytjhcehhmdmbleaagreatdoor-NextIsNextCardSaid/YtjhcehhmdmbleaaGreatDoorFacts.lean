/-
  Closed facts on the types and functions of the program.
-/
import Derived.Test.YtjhcehhmdmbleaaGreatDoorProg
import Derived.Test.YtjhcehhmdmbleaaGreatDoorEng5
open Go Go.Eng Go.Proofs
namespace Go.Proofs.YtjhcehhmdmbleaaGreatDoor.Law
set_option maxRecDepth 100000
set_option linter.unusedVariables false
set_option maxHeartbeats 1000000
theorem zR:bX Tryz.prog 100=true:=by kernel_rfl
theorem tK:bX Tryz.prog 151=true:=by kernel_rfl
theorem LX:bX Tryz.prog 154=true:=by kernel_rfl
theorem Jw:bX Tryz.prog 157=true:=by kernel_rfl
theorem GK:bX Tryz.prog 179=false:=by kernel_rfl
theorem o6:bX Tryz.prog 181=true:=by kernel_rfl
theorem Ac:bX Tryz.prog 22=false:=by kernel_rfl
theorem wW:bX Tryz.prog 223=true:=by kernel_rfl
theorem ag3:bX Tryz.prog 3=false:=by kernel_rfl
theorem ag316:bX Tryz.prog 316=true:=by kernel_rfl
theorem ag35:bX Tryz.prog 35=false:=by kernel_rfl
theorem ag4:bX Tryz.prog 4=false:=by kernel_rfl
theorem GL:bX Tryz.prog 45=true:=by kernel_rfl
theorem sw:bX Tryz.prog 60=true:=by kernel_rfl
theorem ag66:bX Tryz.prog 66=true:=by kernel_rfl
theorem Db:bX Tryz.prog 79=false:=by kernel_rfl
theorem wO:bX Tryz.prog 81=true:=by kernel_rfl
theorem ag9:bX Tryz.prog 9=false:=by kernel_rfl
theorem KD:bX Tryz.prog 98=false:=by kernel_rfl
theorem by151:ik Tryz.prog 151=152:=by kernel_rfl
theorem Md:ik Tryz.prog 181=24:=by kernel_rfl
theorem JG:ik Tryz.prog 223=16:=by kernel_rfl
theorem by3:ik Tryz.prog 3=8:=by kernel_rfl
theorem by316:ik Tryz.prog 316=16:=by kernel_rfl
theorem by45:ik Tryz.prog 45=32:=by kernel_rfl
theorem by60:ik Tryz.prog 60=16:=by kernel_rfl
theorem by76:ik Tryz.prog 76=32:=by kernel_rfl
theorem by9:ik Tryz.prog 9=16:=by kernel_rfl
theorem JU:bR Tryz.prog 147=some 60:=by kernel_rfl
theorem C8:bR Tryz.prog 177=some 181:=by kernel_rfl
theorem Bh:bR Tryz.prog 218=some 223:=by kernel_rfl
theorem Jb:bR Tryz.prog 22=some 3:=by kernel_rfl
theorem JK:bR Tryz.prog 272=some 316:=by kernel_rfl
theorem el67:bR Tryz.prog 67=some 76:=by kernel_rfl
theorem el77:bR Tryz.prog 77=some 151:=by kernel_rfl
theorem el79:bR Tryz.prog 79=some 9:=by kernel_rfl
theorem Je:bR Tryz.prog 98=some 45:=by kernel_rfl
theorem es140:(bR Tryz.prog 140).bind (szT Tryz.prog)=some 1:=by kernel_rfl
theorem Eu:(bR Tryz.prog 147).bind (szT Tryz.prog)=some 2:=by kernel_rfl
theorem E5:(bR Tryz.prog 158).bind (szT Tryz.prog)=some 3:=by kernel_rfl
theorem es161:(bR Tryz.prog 161).bind (szT Tryz.prog)=some 1:=by kernel_rfl
theorem ny:(bR Tryz.prog 177).bind (szT Tryz.prog)=some 3:=by kernel_rfl
theorem lH:(bR Tryz.prog 218).bind (szT Tryz.prog)=some 2:=by kernel_rfl
theorem kw:(bR Tryz.prog 22).bind (szT Tryz.prog)=some 1:=by kernel_rfl
theorem M8:(bR Tryz.prog 230).bind (szT Tryz.prog)=some 8:=by kernel_rfl
theorem Mt:(bR Tryz.prog 260).bind (szT Tryz.prog)=some 1:=by kernel_rfl
theorem zB:(bR Tryz.prog 272).bind (szT Tryz.prog)=some 2:=by kernel_rfl
theorem es56:(bR Tryz.prog 56).bind (szT Tryz.prog)=some 9:=by kernel_rfl
theorem es63:(bR Tryz.prog 63).bind (szT Tryz.prog)=some 3:=by kernel_rfl
theorem es67:(bR Tryz.prog 67).bind (szT Tryz.prog)=some 3:=by kernel_rfl
theorem Ed:(bR Tryz.prog 77).bind (szT Tryz.prog)=some 13:=by kernel_rfl
theorem wP:(bR Tryz.prog 79).bind (szT Tryz.prog)=some 1:=by kernel_rfl
theorem F3:(bR Tryz.prog 98).bind (szT Tryz.prog)=some 4:=by kernel_rfl
theorem ez140:((bR Tryz.prog 140).bind (zeroCells Tryz.prog)).isSome=true:=by kernel_rfl
theorem ez147:((bR Tryz.prog 147).bind (zeroCells Tryz.prog)).isSome=true:=by kernel_rfl
theorem ez158:((bR Tryz.prog 158).bind (zeroCells Tryz.prog)).isSome=true:=by kernel_rfl
theorem ez161:((bR Tryz.prog 161).bind (zeroCells Tryz.prog)).isSome=true:=by kernel_rfl
theorem K9:((bR Tryz.prog 177).bind (zeroCells Tryz.prog)).isSome=true:=by kernel_rfl
theorem JJ:((bR Tryz.prog 218).bind (zeroCells Tryz.prog)).isSome=true:=by kernel_rfl
theorem wQ:((bR Tryz.prog 22).bind (zeroCells Tryz.prog)).isSome=true:=by kernel_rfl
theorem ez230:((bR Tryz.prog 230).bind (zeroCells Tryz.prog)).isSome=true:=by kernel_rfl
theorem ez260:((bR Tryz.prog 260).bind (zeroCells Tryz.prog)).isSome=true:=by kernel_rfl
theorem ez272:((bR Tryz.prog 272).bind (zeroCells Tryz.prog)).isSome=true:=by kernel_rfl
theorem ez56:((bR Tryz.prog 56).bind (zeroCells Tryz.prog)).isSome=true:=by kernel_rfl
theorem ez63:((bR Tryz.prog 63).bind (zeroCells Tryz.prog)).isSome=true:=by kernel_rfl
theorem ez67:((bR Tryz.prog 67).bind (zeroCells Tryz.prog)).isSome=true:=by kernel_rfl
theorem ez77:((bR Tryz.prog 77).bind (zeroCells Tryz.prog)).isSome=true:=by kernel_rfl
theorem Ki:((bR Tryz.prog 79).bind (zeroCells Tryz.prog)).isSome=true:=by kernel_rfl
theorem ez98:((bR Tryz.prog 98).bind (zeroCells Tryz.prog)).isSome=true:=by kernel_rfl
theorem fr181_0:FT Tryz.prog 181 0=some (0,1,false):=by kernel_rfl
theorem Bw:aK Tryz.prog 101=true:=by kernel_rfl
theorem Lb:aK Tryz.prog 107=true:=by kernel_rfl
theorem Lc:aK Tryz.prog 108=true:=by kernel_rfl
theorem hb109:aK Tryz.prog 109=true:=by kernel_rfl
theorem GV:aK Tryz.prog 114=true:=by kernel_rfl
theorem sU:aK Tryz.prog 125=true:=by kernel_rfl
theorem hb14:aK Tryz.prog 14=true:=by kernel_rfl
theorem hb145:aK Tryz.prog 145=true:=by kernel_rfl
theorem hb146:aK Tryz.prog 146=true:=by kernel_rfl
theorem hb147:aK Tryz.prog 147=true:=by kernel_rfl
theorem hb148:aK Tryz.prog 148=true:=by kernel_rfl
theorem hb151:aK Tryz.prog 151=true:=by kernel_rfl
theorem hb152:aK Tryz.prog 152=true:=by kernel_rfl
theorem hb153:aK Tryz.prog 153=true:=by kernel_rfl
theorem MU:aK Tryz.prog 154=true:=by kernel_rfl
theorem hb155:aK Tryz.prog 155=true:=by kernel_rfl
theorem hb156:aK Tryz.prog 156=true:=by kernel_rfl
theorem hb157:aK Tryz.prog 157=true:=by kernel_rfl
theorem hb158:aK Tryz.prog 158=true:=by kernel_rfl
theorem MW:aK Tryz.prog 159=true:=by kernel_rfl
theorem hb161:aK Tryz.prog 161=true:=by kernel_rfl
theorem hb162:aK Tryz.prog 162=true:=by kernel_rfl
theorem hb167:aK Tryz.prog 167=true:=by kernel_rfl
theorem hb169:aK Tryz.prog 169=true:=by kernel_rfl
theorem hb17:aK Tryz.prog 17=true:=by kernel_rfl
theorem MV:aK Tryz.prog 170=true:=by kernel_rfl
theorem hb171:aK Tryz.prog 171=true:=by kernel_rfl
theorem hb172:aK Tryz.prog 172=true:=by kernel_rfl
theorem hb173:aK Tryz.prog 173=true:=by kernel_rfl
theorem hb174:aK Tryz.prog 174=true:=by kernel_rfl
theorem Ls:aK Tryz.prog 175=true:=by kernel_rfl
theorem hb176:aK Tryz.prog 176=true:=by kernel_rfl
theorem hb177:aK Tryz.prog 177=true:=by kernel_rfl
theorem hb181:aK Tryz.prog 181=true:=by kernel_rfl
theorem hb182:aK Tryz.prog 182=true:=by kernel_rfl
theorem hb183:aK Tryz.prog 183=true:=by kernel_rfl
theorem JX:aK Tryz.prog 186=true:=by kernel_rfl
theorem Fx:aK Tryz.prog 19=true:=by kernel_rfl
theorem hb193:aK Tryz.prog 193=true:=by kernel_rfl
theorem hb194:aK Tryz.prog 194=true:=by kernel_rfl
theorem hb195:aK Tryz.prog 195=true:=by kernel_rfl
theorem hb197:aK Tryz.prog 197=true:=by kernel_rfl
theorem hb198:aK Tryz.prog 198=true:=by kernel_rfl
theorem hb199:aK Tryz.prog 199=true:=by kernel_rfl
theorem hb20:aK Tryz.prog 20=true:=by kernel_rfl
theorem hb200:aK Tryz.prog 200=true:=by kernel_rfl
theorem hb201:aK Tryz.prog 201=true:=by kernel_rfl
theorem hb202:aK Tryz.prog 202=true:=by kernel_rfl
theorem hb203:aK Tryz.prog 203=true:=by kernel_rfl
theorem hb204:aK Tryz.prog 204=true:=by kernel_rfl
theorem hb205:aK Tryz.prog 205=true:=by kernel_rfl
theorem hb206:aK Tryz.prog 206=true:=by kernel_rfl
theorem hb208:aK Tryz.prog 208=true:=by kernel_rfl
theorem hb211:aK Tryz.prog 211=true:=by kernel_rfl
theorem hb212:aK Tryz.prog 212=true:=by kernel_rfl
theorem hb220:aK Tryz.prog 220=true:=by kernel_rfl
theorem hb224:aK Tryz.prog 224=true:=by kernel_rfl
theorem hb227:aK Tryz.prog 227=true:=by kernel_rfl
theorem hb228:aK Tryz.prog 228=true:=by kernel_rfl
theorem hb229:aK Tryz.prog 229=true:=by kernel_rfl
theorem hb230:aK Tryz.prog 230=true:=by kernel_rfl
theorem hb249:aK Tryz.prog 249=true:=by kernel_rfl
theorem hb258:aK Tryz.prog 258=true:=by kernel_rfl
theorem hb263:aK Tryz.prog 263=true:=by kernel_rfl
theorem hb264:aK Tryz.prog 264=true:=by kernel_rfl
theorem hb265:aK Tryz.prog 265=true:=by kernel_rfl
theorem hb266:aK Tryz.prog 266=true:=by kernel_rfl
theorem hb267:aK Tryz.prog 267=true:=by kernel_rfl
theorem hb268:aK Tryz.prog 268=true:=by kernel_rfl
theorem hb269:aK Tryz.prog 269=true:=by kernel_rfl
theorem Cr:aK Tryz.prog 270=true:=by kernel_rfl
theorem hb272:aK Tryz.prog 272=true:=by kernel_rfl
theorem hb273:aK Tryz.prog 273=true:=by kernel_rfl
theorem hb286:aK Tryz.prog 286=true:=by kernel_rfl
theorem hb287:aK Tryz.prog 287=true:=by kernel_rfl
theorem hb304:aK Tryz.prog 304=true:=by kernel_rfl
theorem hb31:aK Tryz.prog 31=true:=by kernel_rfl
theorem hb312:aK Tryz.prog 312=true:=by kernel_rfl
theorem hb313:aK Tryz.prog 313=true:=by kernel_rfl
theorem hb32:aK Tryz.prog 32=true:=by kernel_rfl
theorem hb322:aK Tryz.prog 322=true:=by kernel_rfl
theorem hb323:aK Tryz.prog 323=true:=by kernel_rfl
theorem hb34:aK Tryz.prog 34=true:=by kernel_rfl
theorem hb35:aK Tryz.prog 35=true:=by kernel_rfl
theorem hb37:aK Tryz.prog 37=true:=by kernel_rfl
theorem hb45:aK Tryz.prog 45=true:=by kernel_rfl
theorem hb47:aK Tryz.prog 47=true:=by kernel_rfl
theorem hb68:aK Tryz.prog 68=true:=by kernel_rfl
theorem hb69:aK Tryz.prog 69=true:=by kernel_rfl
theorem hb73:aK Tryz.prog 73=true:=by kernel_rfl
theorem hb77:aK Tryz.prog 77=true:=by kernel_rfl
theorem hb78:aK Tryz.prog 78=true:=by kernel_rfl
theorem hb79:aK Tryz.prog 79=true:=by kernel_rfl
theorem hb80:aK Tryz.prog 80=true:=by kernel_rfl
theorem MB:aK Tryz.prog 81=true:=by kernel_rfl
theorem hb83:aK Tryz.prog 83=true:=by kernel_rfl
theorem qE:aK Tryz.prog 84=true:=by kernel_rfl
theorem hb90:aK Tryz.prog 90=true:=by kernel_rfl
theorem hb91:aK Tryz.prog 91=true:=by kernel_rfl
theorem hb94:aK Tryz.prog 94=true:=by kernel_rfl
theorem hb95:aK Tryz.prog 95=true:=by kernel_rfl
theorem hb96:aK Tryz.prog 96=true:=by kernel_rfl
theorem mt168:H5 Tryz.prog 168=some (9,4):=by kernel_rfl
theorem nb248:aK Tryz.prog 248=false:=by kernel_rfl
theorem xD:bH Tryz.prog 100 0=some (0,1):=by kernel_rfl
theorem pl100_1:bH Tryz.prog 100 1=some (1,1):=by kernel_rfl
theorem Fj:bH Tryz.prog 100 2=some (2,1):=by kernel_rfl
theorem BS:bH Tryz.prog 100 3=some (3,1):=by kernel_rfl
theorem zy:bH Tryz.prog 100 4=some (4,1):=by kernel_rfl
theorem pl100_5:bH Tryz.prog 100 5=some (5,1):=by kernel_rfl
theorem pl100_6:bH Tryz.prog 100 6=some (6,1):=by kernel_rfl
theorem Cg:bH Tryz.prog 100 7=some (7,1):=by kernel_rfl
theorem Gl:bH Tryz.prog 100 8=some (8,1):=by kernel_rfl
theorem uK:bH Tryz.prog 151 0=some (0,1):=by kernel_rfl
theorem pl151_1:bH Tryz.prog 151 1=some (1,1):=by kernel_rfl
theorem Dk:bH Tryz.prog 151 10=some (10,1):=by kernel_rfl
theorem zn:bH Tryz.prog 151 11=some (11,1):=by kernel_rfl
theorem HV:bH Tryz.prog 151 12=some (12,1):=by kernel_rfl
theorem pl151_2:bH Tryz.prog 151 2=some (2,1):=by kernel_rfl
theorem xC:bH Tryz.prog 151 3=some (3,1):=by kernel_rfl
theorem xx:bH Tryz.prog 151 4=some (4,1):=by kernel_rfl
theorem JM:bH Tryz.prog 151 5=some (5,1):=by kernel_rfl
theorem Jz:bH Tryz.prog 151 6=some (6,1):=by kernel_rfl
theorem BP:bH Tryz.prog 151 7=some (7,1):=by kernel_rfl
theorem FM:bH Tryz.prog 151 8=some (8,1):=by kernel_rfl
theorem J9:bH Tryz.prog 151 9=some (9,1):=by kernel_rfl
theorem F7:bH Tryz.prog 154 0=some (0,1):=by kernel_rfl
theorem J4:bH Tryz.prog 154 1=some (1,1):=by kernel_rfl
theorem xH:bH Tryz.prog 154 2=some (2,2):=by kernel_rfl
theorem pl154_3:bH Tryz.prog 154 3=some (4,1):=by kernel_rfl
theorem Gp:bH Tryz.prog 154 4=some (5,1):=by kernel_rfl
theorem pl154_5:bH Tryz.prog 154 5=some (6,1):=by kernel_rfl
theorem pl154_6:bH Tryz.prog 154 6=some (7,1):=by kernel_rfl
theorem xA:bH Tryz.prog 157 0=some (0,1):=by kernel_rfl
theorem zO:bH Tryz.prog 157 1=some (1,1):=by kernel_rfl
theorem zS:bH Tryz.prog 157 2=some (2,1):=by kernel_rfl
theorem zL:bH Tryz.prog 181 0=some (0,1):=by kernel_rfl
theorem uX:bH Tryz.prog 181 1=some (1,2):=by kernel_rfl
theorem kX:bH Tryz.prog 223 0=some (0,1):=by kernel_rfl
theorem qz:bH Tryz.prog 223 1=some (1,1):=by kernel_rfl
theorem Gw:bH Tryz.prog 25 0=some (0,1):=by kernel_rfl
theorem Dw:bH Tryz.prog 25 1=some (1,1):=by kernel_rfl
theorem rW:bH Tryz.prog 316 0=some (0,1):=by kernel_rfl
theorem uG:bH Tryz.prog 316 1=some (1,1):=by kernel_rfl
theorem Ad:bH Tryz.prog 45 0=some (0,1):=by kernel_rfl
theorem wZ:bH Tryz.prog 45 1=some (1,1):=by kernel_rfl
theorem FD:bH Tryz.prog 45 2=some (2,1):=by kernel_rfl
theorem Dy:bH Tryz.prog 45 3=some (3,1):=by kernel_rfl
theorem iH:bH Tryz.prog 60 0=some (0,1):=by kernel_rfl
theorem jF:bH Tryz.prog 60 1=some (1,1):=by kernel_rfl
theorem Jg:bH Tryz.prog 66 0=some (0,1):=by kernel_rfl
theorem IG:bH Tryz.prog 66 1=some (1,1):=by kernel_rfl
theorem IA:bH Tryz.prog 66 2=some (2,1):=by kernel_rfl
theorem LQ:bH Tryz.prog 76 0=some (0,2):=by kernel_rfl
theorem pl76_1:bH Tryz.prog 76 1=some (2,1):=by kernel_rfl
theorem pl81_0:bH Tryz.prog 81 0=some (0,1):=by kernel_rfl
theorem pl81_1:bH Tryz.prog 81 1=some (1,1):=by kernel_rfl
theorem Jl:bH Tryz.prog 81 2=some (2,1):=by kernel_rfl
theorem LD:bH Tryz.prog 81 3=some (3,1):=by kernel_rfl
theorem vJ:szT Tryz.prog 100=some 9:=by kernel_rfl
theorem qo:szT Tryz.prog 151=some 13:=by kernel_rfl
theorem Ju:szT Tryz.prog 154=some 8:=by kernel_rfl
theorem ET:szT Tryz.prog 157=some 3:=by kernel_rfl
theorem Ig:szT Tryz.prog 179=some 1:=by kernel_rfl
theorem iX:szT Tryz.prog 181=some 3:=by kernel_rfl
theorem yI:szT Tryz.prog 22=some 1:=by kernel_rfl
theorem nE:szT Tryz.prog 223=some 2:=by kernel_rfl
theorem sz3:szT Tryz.prog 3=some 1:=by kernel_rfl
theorem E9:szT Tryz.prog 316=some 2:=by kernel_rfl
theorem sz35:szT Tryz.prog 35=some 1:=by kernel_rfl
theorem sz4:szT Tryz.prog 4=some 1:=by kernel_rfl
theorem wB:szT Tryz.prog 45=some 4:=by kernel_rfl
theorem mE:szT Tryz.prog 60=some 2:=by kernel_rfl
theorem sz66:szT Tryz.prog 66=some 3:=by kernel_rfl
theorem sz76:szT Tryz.prog 76=some 3:=by kernel_rfl
theorem BI:szT Tryz.prog 79=some 1:=by kernel_rfl
theorem uJ:szT Tryz.prog 81=some 4:=by kernel_rfl
theorem sz9:szT Tryz.prog 9=some 1:=by kernel_rfl
theorem KM:szT Tryz.prog 98=some 1:=by kernel_rfl
theorem un140:(Tryz.prog).underlying 140=some (.slice 35):=by kernel_rfl
theorem JW:(Tryz.prog).underlying 147=some (.slice 60):=by kernel_rfl
theorem Mf:(Tryz.prog).underlying 158=some (.slice 157):=by kernel_rfl
theorem sV:(Tryz.prog).underlying 177=some (.slice 181):=by kernel_rfl
theorem yc:(Tryz.prog).underlying 218=some (.slice 223):=by kernel_rfl
theorem vW:(Tryz.prog).underlying 22=some (.slice 3):=by kernel_rfl
theorem un230:(Tryz.prog).underlying 230=some (.slice 154):=by kernel_rfl
theorem EK:(Tryz.prog).underlying 238=some (.int .u64):=by kernel_rfl
theorem un260:(Tryz.prog).underlying 260=some (.slice 98):=by kernel_rfl
theorem MR:(Tryz.prog).underlying 272=some (.slice 316):=by kernel_rfl
theorem zm:(Tryz.prog).underlying 289=some (.int .u64):=by kernel_rfl
theorem un3:(Tryz.prog).underlying 3=some (.int .i64):=by kernel_rfl
theorem un4:(Tryz.prog).underlying 4=some .bool:=by kernel_rfl
theorem un5:(Tryz.prog).underlying 5=some (.int .u8):=by kernel_rfl
theorem un56:(Tryz.prog).underlying 56=some (.slice 100):=by kernel_rfl
theorem un63:(Tryz.prog).underlying 63=some (.slice 66):=by kernel_rfl
theorem un67:(Tryz.prog).underlying 67=some (.slice 76):=by kernel_rfl
theorem un77:(Tryz.prog).underlying 77=some (.slice 151):=by kernel_rfl
theorem Ck:(Tryz.prog).underlying 79=some (.slice 9):=by kernel_rfl
theorem un9:(Tryz.prog).underlying 9=some .string:=by kernel_rfl
theorem AA:(Tryz.prog).underlying 98=some (.slice 45):=by kernel_rfl
theorem z100:zeroCells Tryz.prog 100=some [.d (.str ⟨#[]⟩),.d (.str ⟨#[]⟩),.d (.int .i64 0),.nil,.d (.int .i64 0),.d (.int .i64 0),.d (.int .i64 0),.nil,.d (.str ⟨#[]⟩)]:=by kernel_rfl
theorem z151:zeroCells Tryz.prog 151=some [.d (.str ⟨#[]⟩),.d (.str ⟨#[]⟩),.d (.int .i64 0),.d (.int .i64 0),.d (.int .i64 0),.d (.int .i64 0),.d (.int .i64 0),.nil,.d (.int .i64 0),.d (.int .i64 0),.d (.int .i64 0),.nil,.d (.bool false)]:=by kernel_rfl
theorem z154:zeroCells Tryz.prog 154=some [.d (.str ⟨#[]⟩),.d (.str ⟨#[]⟩),.d (.int .i64 0),.d (.int .i64 0),.nil,.d (.int .i64 0),.d (.int .i64 0),.d (.int .i64 0)]:=by kernel_rfl
theorem z157:zeroCells Tryz.prog 157=some [.d (.str ⟨#[]⟩),.d (.int .i64 0),.d (.int .i64 0)]:=by kernel_rfl
theorem Ho:zeroCells Tryz.prog 181=some [.d .nilp,.d (.int .i64 0),.d (.int .i64 0)]:=by kernel_rfl
theorem z22:zeroCells Tryz.prog 22=some [.nil]:=by kernel_rfl
theorem Ja:zeroCells Tryz.prog 223=some [.d (.int .i64 0),.d (.int .i64 0)]:=by kernel_rfl
theorem z3:zeroCells Tryz.prog 3=some [.d (.int .i64 0)]:=by kernel_rfl
theorem z316:zeroCells Tryz.prog 316=some [.d (.int .i64 0),.d (.int .i64 0)]:=by kernel_rfl
theorem z45:zeroCells Tryz.prog 45=some [.d (.int .i64 0),.d (.int .i64 0),.d (.int .i64 0),.d (.int .i64 0)]:=by kernel_rfl
theorem z60:zeroCells Tryz.prog 60=some [.d (.int .i64 0),.d (.int .i64 0)]:=by kernel_rfl
theorem z66:zeroCells Tryz.prog 66=some [.d (.str ⟨#[]⟩),.d (.int .i64 0),.d (.int .i64 0)]:=by kernel_rfl
theorem z76:zeroCells Tryz.prog 76=some [.d (.int .i64 0),.d (.int .i64 0),.d (.str ⟨#[]⟩)]:=by kernel_rfl
theorem z81:zeroCells Tryz.prog 81=some [.d (.str ⟨#[]⟩),.d (.str ⟨#[]⟩),.d (.int .i64 0),.nil]:=by kernel_rfl
theorem z9:zeroCells Tryz.prog 9=some [.d (.str ⟨#[]⟩)]:=by kernel_rfl
theorem H6:∀ w0,Go.Eng.JE w0 → ∃ m,w0.cell? ⟨0,0,none⟩=some (.int .i64 m):=fun _ h=>h
end Go.Proofs.YtjhcehhmdmbleaaGreatDoor.Law

