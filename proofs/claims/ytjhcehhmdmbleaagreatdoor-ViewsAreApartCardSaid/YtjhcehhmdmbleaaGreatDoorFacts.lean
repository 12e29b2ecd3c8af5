/-
  Closed facts on the types and functions of the program.
-/
import Derived.Test.YtjhcehhmdmbleaaGreatDoorProg
import Derived.Test.YtjhcehhmdmbleaaGreatDoorEng4
open Go Go.Eng Go.Proofs
namespace Go.Proofs.YtjhcehhmdmbleaaGreatDoor.Law
set_option maxRecDepth 100000
set_option linter.unusedVariables false
set_option maxHeartbeats 1000000
theorem yN:bN Tryz.prog 100=true:=by kernel_rfl
theorem zi:bN Tryz.prog 127=true:=by kernel_rfl
theorem K4:bN Tryz.prog 131=true:=by kernel_rfl
theorem EE:bN Tryz.prog 151=true:=by kernel_rfl
theorem Nw:bN Tryz.prog 154=true:=by kernel_rfl
theorem KU:bN Tryz.prog 157=true:=by kernel_rfl
theorem Lj:bN Tryz.prog 22=false:=by kernel_rfl
theorem vX:bN Tryz.prog 223=true:=by kernel_rfl
theorem Bu:bN Tryz.prog 26=false:=by kernel_rfl
theorem Cf:bN Tryz.prog 28=true:=by kernel_rfl
theorem ag3:bN Tryz.prog 3=false:=by kernel_rfl
theorem Ie:bN Tryz.prog 30=false:=by kernel_rfl
theorem ag316:bN Tryz.prog 316=true:=by kernel_rfl
theorem BF:bN Tryz.prog 32=true:=by kernel_rfl
theorem ag35:bN Tryz.prog 35=false:=by kernel_rfl
theorem ag4:bN Tryz.prog 4=false:=by kernel_rfl
theorem gm:bN Tryz.prog 45=true:=by kernel_rfl
theorem ag47:bN Tryz.prog 47=true:=by kernel_rfl
theorem ag51:bN Tryz.prog 51=true:=by kernel_rfl
theorem Hd:bN Tryz.prog 60=true:=by kernel_rfl
theorem ag66:bN Tryz.prog 66=true:=by kernel_rfl
theorem LJ:bN Tryz.prog 79=false:=by kernel_rfl
theorem ag9:bN Tryz.prog 9=false:=by kernel_rfl
theorem LQ:bN Tryz.prog 98=false:=by kernel_rfl
theorem by127:fZ Tryz.prog 127=48:=by kernel_rfl
theorem by131:fZ Tryz.prog 131=56:=by kernel_rfl
theorem Ky:fZ Tryz.prog 223=16:=by kernel_rfl
theorem by3:fZ Tryz.prog 3=8:=by kernel_rfl
theorem by316:fZ Tryz.prog 316=16:=by kernel_rfl
theorem Ll:fZ Tryz.prog 45=32:=by kernel_rfl
theorem by47:fZ Tryz.prog 47=64:=by kernel_rfl
theorem by51:fZ Tryz.prog 51=48:=by kernel_rfl
theorem by60:fZ Tryz.prog 60=16:=by kernel_rfl
theorem el147:bK Tryz.prog 147=some 60:=by kernel_rfl
theorem Bg:bK Tryz.prog 218=some 223:=by kernel_rfl
theorem el22:bK Tryz.prog 22=some 3:=by kernel_rfl
theorem el26:bK Tryz.prog 26=some 127:=by kernel_rfl
theorem J6:bK Tryz.prog 272=some 316:=by kernel_rfl
theorem el30:bK Tryz.prog 30=some 131:=by kernel_rfl
theorem el34:bK Tryz.prog 34=some 47:=by kernel_rfl
theorem el40:bK Tryz.prog 40=some 51:=by kernel_rfl
theorem AA:bK Tryz.prog 98=some 45:=by kernel_rfl
theorem NQ:(bK Tryz.prog 140).bind (szT Tryz.prog)=some 1:=by kernel_rfl
theorem Oa:(bK Tryz.prog 147).bind (szT Tryz.prog)=some 2:=by kernel_rfl
theorem E9:(bK Tryz.prog 158).bind (szT Tryz.prog)=some 3:=by kernel_rfl
theorem lg:(bK Tryz.prog 218).bind (szT Tryz.prog)=some 2:=by kernel_rfl
theorem oo:(bK Tryz.prog 22).bind (szT Tryz.prog)=some 1:=by kernel_rfl
theorem Nc:(bK Tryz.prog 230).bind (szT Tryz.prog)=some 8:=by kernel_rfl
theorem DF:(bK Tryz.prog 26).bind (szT Tryz.prog)=some 5:=by kernel_rfl
theorem M7:(bK Tryz.prog 260).bind (szT Tryz.prog)=some 1:=by kernel_rfl
theorem zb:(bK Tryz.prog 272).bind (szT Tryz.prog)=some 2:=by kernel_rfl
theorem Ep:(bK Tryz.prog 30).bind (szT Tryz.prog)=some 6:=by kernel_rfl
theorem es34:(bK Tryz.prog 34).bind (szT Tryz.prog)=some 6:=by kernel_rfl
theorem LC:(bK Tryz.prog 40).bind (szT Tryz.prog)=some 5:=by kernel_rfl
theorem es56:(bK Tryz.prog 56).bind (szT Tryz.prog)=some 9:=by kernel_rfl
theorem es63:(bK Tryz.prog 63).bind (szT Tryz.prog)=some 3:=by kernel_rfl
theorem es77:(bK Tryz.prog 77).bind (szT Tryz.prog)=some 13:=by kernel_rfl
theorem Ia:(bK Tryz.prog 79).bind (szT Tryz.prog)=some 1:=by kernel_rfl
theorem zu:(bK Tryz.prog 98).bind (szT Tryz.prog)=some 4:=by kernel_rfl
theorem ez140:((bK Tryz.prog 140).bind (zeroCells Tryz.prog)).isSome=true:=by kernel_rfl
theorem ez147:((bK Tryz.prog 147).bind (zeroCells Tryz.prog)).isSome=true:=by kernel_rfl
theorem ez158:((bK Tryz.prog 158).bind (zeroCells Tryz.prog)).isSome=true:=by kernel_rfl
theorem KX:((bK Tryz.prog 218).bind (zeroCells Tryz.prog)).isSome=true:=by kernel_rfl
theorem Ce:((bK Tryz.prog 22).bind (zeroCells Tryz.prog)).isSome=true:=by kernel_rfl
theorem ez230:((bK Tryz.prog 230).bind (zeroCells Tryz.prog)).isSome=true:=by kernel_rfl
theorem ez26:((bK Tryz.prog 26).bind (zeroCells Tryz.prog)).isSome=true:=by kernel_rfl
theorem ez260:((bK Tryz.prog 260).bind (zeroCells Tryz.prog)).isSome=true:=by kernel_rfl
theorem ez272:((bK Tryz.prog 272).bind (zeroCells Tryz.prog)).isSome=true:=by kernel_rfl
theorem ez30:((bK Tryz.prog 30).bind (zeroCells Tryz.prog)).isSome=true:=by kernel_rfl
theorem ez34:((bK Tryz.prog 34).bind (zeroCells Tryz.prog)).isSome=true:=by kernel_rfl
theorem ez40:((bK Tryz.prog 40).bind (zeroCells Tryz.prog)).isSome=true:=by kernel_rfl
theorem ez56:((bK Tryz.prog 56).bind (zeroCells Tryz.prog)).isSome=true:=by kernel_rfl
theorem ez63:((bK Tryz.prog 63).bind (zeroCells Tryz.prog)).isSome=true:=by kernel_rfl
theorem ez77:((bK Tryz.prog 77).bind (zeroCells Tryz.prog)).isSome=true:=by kernel_rfl
theorem ez79:((bK Tryz.prog 79).bind (zeroCells Tryz.prog)).isSome=true:=by kernel_rfl
theorem JM:((bK Tryz.prog 98).bind (zeroCells Tryz.prog)).isSome=true:=by kernel_rfl
theorem hb10:aI Tryz.prog 10=true:=by kernel_rfl
theorem CX:aI Tryz.prog 101=true:=by kernel_rfl
theorem hb107:aI Tryz.prog 107=true:=by kernel_rfl
theorem hb108:aI Tryz.prog 108=true:=by kernel_rfl
theorem hb109:aI Tryz.prog 109=true:=by kernel_rfl
theorem hb11:aI Tryz.prog 11=true:=by kernel_rfl
theorem hb114:aI Tryz.prog 114=true:=by kernel_rfl
theorem hb12:aI Tryz.prog 12=true:=by kernel_rfl
theorem qM:aI Tryz.prog 125=true:=by kernel_rfl
theorem hb13:aI Tryz.prog 13=true:=by kernel_rfl
theorem hb14:aI Tryz.prog 14=true:=by kernel_rfl
theorem hb140:aI Tryz.prog 140=true:=by kernel_rfl
theorem hb141:aI Tryz.prog 141=true:=by kernel_rfl
theorem hb142:aI Tryz.prog 142=true:=by kernel_rfl
theorem hb143:aI Tryz.prog 143=true:=by kernel_rfl
theorem hb144:aI Tryz.prog 144=true:=by kernel_rfl
theorem hb145:aI Tryz.prog 145=true:=by kernel_rfl
theorem hb146:aI Tryz.prog 146=true:=by kernel_rfl
theorem hb147:aI Tryz.prog 147=true:=by kernel_rfl
theorem hb148:aI Tryz.prog 148=true:=by kernel_rfl
theorem hb149:aI Tryz.prog 149=true:=by kernel_rfl
theorem hb15:aI Tryz.prog 15=true:=by kernel_rfl
theorem hb150:aI Tryz.prog 150=true:=by kernel_rfl
theorem hb151:aI Tryz.prog 151=true:=by kernel_rfl
theorem hb152:aI Tryz.prog 152=true:=by kernel_rfl
theorem hb153:aI Tryz.prog 153=true:=by kernel_rfl
theorem hb154:aI Tryz.prog 154=true:=by kernel_rfl
theorem hb155:aI Tryz.prog 155=true:=by kernel_rfl
theorem hb156:aI Tryz.prog 156=true:=by kernel_rfl
theorem hb157:aI Tryz.prog 157=true:=by kernel_rfl
theorem hb158:aI Tryz.prog 158=true:=by kernel_rfl
theorem Np:aI Tryz.prog 159=true:=by kernel_rfl
theorem hb16:aI Tryz.prog 16=true:=by kernel_rfl
theorem hb161:aI Tryz.prog 161=true:=by kernel_rfl
theorem hb162:aI Tryz.prog 162=true:=by kernel_rfl
theorem hb165:aI Tryz.prog 165=true:=by kernel_rfl
theorem hb167:aI Tryz.prog 167=true:=by kernel_rfl
theorem hb17:aI Tryz.prog 17=true:=by kernel_rfl
theorem hb181:aI Tryz.prog 181=true:=by kernel_rfl
theorem hb182:aI Tryz.prog 182=true:=by kernel_rfl
theorem hb183:aI Tryz.prog 183=true:=by kernel_rfl
theorem Kl:aI Tryz.prog 186=true:=by kernel_rfl
theorem NY:aI Tryz.prog 19=true:=by kernel_rfl
theorem hb193:aI Tryz.prog 193=true:=by kernel_rfl
theorem hb194:aI Tryz.prog 194=true:=by kernel_rfl
theorem hb195:aI Tryz.prog 195=true:=by kernel_rfl
theorem hb196:aI Tryz.prog 196=true:=by kernel_rfl
theorem hb197:aI Tryz.prog 197=true:=by kernel_rfl
theorem hb198:aI Tryz.prog 198=true:=by kernel_rfl
theorem hb199:aI Tryz.prog 199=true:=by kernel_rfl
theorem hb20:aI Tryz.prog 20=true:=by kernel_rfl
theorem hb200:aI Tryz.prog 200=true:=by kernel_rfl
theorem hb201:aI Tryz.prog 201=true:=by kernel_rfl
theorem hb202:aI Tryz.prog 202=true:=by kernel_rfl
theorem hb203:aI Tryz.prog 203=true:=by kernel_rfl
theorem hb204:aI Tryz.prog 204=true:=by kernel_rfl
theorem hb205:aI Tryz.prog 205=true:=by kernel_rfl
theorem hb206:aI Tryz.prog 206=true:=by kernel_rfl
theorem hb208:aI Tryz.prog 208=true:=by kernel_rfl
theorem hb211:aI Tryz.prog 211=true:=by kernel_rfl
theorem hb212:aI Tryz.prog 212=true:=by kernel_rfl
theorem hb213:aI Tryz.prog 213=true:=by kernel_rfl
theorem hb220:aI Tryz.prog 220=true:=by kernel_rfl
theorem hb224:aI Tryz.prog 224=true:=by kernel_rfl
theorem hb227:aI Tryz.prog 227=true:=by kernel_rfl
theorem hb249:aI Tryz.prog 249=true:=by kernel_rfl
theorem hb263:aI Tryz.prog 263=true:=by kernel_rfl
theorem hb264:aI Tryz.prog 264=true:=by kernel_rfl
theorem hb265:aI Tryz.prog 265=true:=by kernel_rfl
theorem hb266:aI Tryz.prog 266=true:=by kernel_rfl
theorem hb267:aI Tryz.prog 267=true:=by kernel_rfl
theorem hb268:aI Tryz.prog 268=true:=by kernel_rfl
theorem hb269:aI Tryz.prog 269=true:=by kernel_rfl
theorem Dm:aI Tryz.prog 270=true:=by kernel_rfl
theorem hb272:aI Tryz.prog 272=true:=by kernel_rfl
theorem hb273:aI Tryz.prog 273=true:=by kernel_rfl
theorem hb279:aI Tryz.prog 279=true:=by kernel_rfl
theorem hb280:aI Tryz.prog 280=true:=by kernel_rfl
theorem hb304:aI Tryz.prog 304=true:=by kernel_rfl
theorem hb312:aI Tryz.prog 312=true:=by kernel_rfl
theorem hb313:aI Tryz.prog 313=true:=by kernel_rfl
theorem hb319:aI Tryz.prog 319=true:=by kernel_rfl
theorem IE:aI Tryz.prog 34=true:=by kernel_rfl
theorem hb45:aI Tryz.prog 45=true:=by kernel_rfl
theorem hb63:aI Tryz.prog 63=true:=by kernel_rfl
theorem hb64:aI Tryz.prog 64=true:=by kernel_rfl
theorem hb65:aI Tryz.prog 65=true:=by kernel_rfl
theorem hb66:aI Tryz.prog 66=true:=by kernel_rfl
theorem hb67:aI Tryz.prog 67=true:=by kernel_rfl
theorem hb68:aI Tryz.prog 68=true:=by kernel_rfl
theorem hb69:aI Tryz.prog 69=true:=by kernel_rfl
theorem hb70:aI Tryz.prog 70=true:=by kernel_rfl
theorem hb71:aI Tryz.prog 71=true:=by kernel_rfl
theorem hb72:aI Tryz.prog 72=true:=by kernel_rfl
theorem LM:aI Tryz.prog 73=true:=by kernel_rfl
theorem hb74:aI Tryz.prog 74=true:=by kernel_rfl
theorem hb75:aI Tryz.prog 75=true:=by kernel_rfl
theorem hb76:aI Tryz.prog 76=true:=by kernel_rfl
theorem hb77:aI Tryz.prog 77=true:=by kernel_rfl
theorem hb78:aI Tryz.prog 78=true:=by kernel_rfl
theorem hb79:aI Tryz.prog 79=true:=by kernel_rfl
theorem hb80:aI Tryz.prog 80=true:=by kernel_rfl
theorem hb81:aI Tryz.prog 81=true:=by kernel_rfl
theorem hb83:aI Tryz.prog 83=true:=by kernel_rfl
theorem pJ:aI Tryz.prog 84=true:=by kernel_rfl
theorem hb88:aI Tryz.prog 88=true:=by kernel_rfl
theorem LG:aI Tryz.prog 89=true:=by kernel_rfl
theorem hb9:aI Tryz.prog 9=true:=by kernel_rfl
theorem hb90:aI Tryz.prog 90=true:=by kernel_rfl
theorem hb91:aI Tryz.prog 91=true:=by kernel_rfl
theorem mt168:IJ Tryz.prog 168=some (9,4):=by kernel_rfl
theorem nb248:aI Tryz.prog 248=false:=by kernel_rfl
theorem nb320:aI Tryz.prog 320=false:=by kernel_rfl
theorem wM:bv Tryz.prog 100 0=some (0,1):=by kernel_rfl
theorem pl100_1:bv Tryz.prog 100 1=some (1,1):=by kernel_rfl
theorem FI:bv Tryz.prog 100 2=some (2,1):=by kernel_rfl
theorem BH:bv Tryz.prog 100 3=some (3,1):=by kernel_rfl
theorem y8:bv Tryz.prog 100 4=some (4,1):=by kernel_rfl
theorem pl100_5:bv Tryz.prog 100 5=some (5,1):=by kernel_rfl
theorem pl100_6:bv Tryz.prog 100 6=some (6,1):=by kernel_rfl
theorem BJ:bv Tryz.prog 100 7=some (7,1):=by kernel_rfl
theorem F5:bv Tryz.prog 100 8=some (8,1):=by kernel_rfl
theorem uK:bv Tryz.prog 127 0=some (0,1):=by kernel_rfl
theorem kg:bv Tryz.prog 127 1=some (1,4):=by kernel_rfl
theorem BU:bv Tryz.prog 131 0=some (0,1):=by kernel_rfl
theorem rR:bv Tryz.prog 131 1=some (1,4):=by kernel_rfl
theorem zB:bv Tryz.prog 131 2=some (5,1):=by kernel_rfl
theorem G6:bv Tryz.prog 151 0=some (0,1):=by kernel_rfl
theorem pl151_1:bv Tryz.prog 151 1=some (1,1):=by kernel_rfl
theorem Nt:bv Tryz.prog 151 10=some (10,1):=by kernel_rfl
theorem Ni:bv Tryz.prog 151 11=some (11,1):=by kernel_rfl
theorem NA:bv Tryz.prog 151 12=some (12,1):=by kernel_rfl
theorem pl151_2:bv Tryz.prog 151 2=some (2,1):=by kernel_rfl
theorem BI:bv Tryz.prog 151 3=some (3,1):=by kernel_rfl
theorem BM:bv Tryz.prog 151 4=some (4,1):=by kernel_rfl
theorem KG:bv Tryz.prog 151 5=some (5,1):=by kernel_rfl
theorem Kz:bv Tryz.prog 151 6=some (6,1):=by kernel_rfl
theorem KN:bv Tryz.prog 151 7=some (7,1):=by kernel_rfl
theorem Gv:bv Tryz.prog 151 8=some (8,1):=by kernel_rfl
theorem KV:bv Tryz.prog 151 9=some (9,1):=by kernel_rfl
theorem Gg:bv Tryz.prog 154 0=some (0,1):=by kernel_rfl
theorem KO:bv Tryz.prog 154 1=some (1,1):=by kernel_rfl
theorem wQ:bv Tryz.prog 154 2=some (2,2):=by kernel_rfl
theorem pl154_3:bv Tryz.prog 154 3=some (4,1):=by kernel_rfl
theorem Gt:bv Tryz.prog 154 4=some (5,1):=by kernel_rfl
theorem pl154_5:bv Tryz.prog 154 5=some (6,1):=by kernel_rfl
theorem pl154_6:bv Tryz.prog 154 6=some (7,1):=by kernel_rfl
theorem wL:bv Tryz.prog 157 0=some (0,1):=by kernel_rfl
theorem yO:bv Tryz.prog 157 1=some (1,1):=by kernel_rfl
theorem yP:bv Tryz.prog 157 2=some (2,1):=by kernel_rfl
theorem kQ:bv Tryz.prog 223 0=some (0,1):=by kernel_rfl
theorem qy:bv Tryz.prog 223 1=some (1,1):=by kernel_rfl
theorem GH:bv Tryz.prog 25 0=some (0,1):=by kernel_rfl
theorem Ec:bv Tryz.prog 25 1=some (1,1):=by kernel_rfl
theorem Na:bv Tryz.prog 28 0=some (0,1):=by kernel_rfl
theorem wo:bv Tryz.prog 28 1=some (1,1):=by kernel_rfl
theorem wC:bv Tryz.prog 28 2=some (2,1):=by kernel_rfl
theorem ol:bv Tryz.prog 28 3=some (3,1):=by kernel_rfl
theorem rW:bv Tryz.prog 316 0=some (0,1):=by kernel_rfl
theorem uo:bv Tryz.prog 316 1=some (1,1):=by kernel_rfl
theorem pl32_0:bv Tryz.prog 32 0=some (0,1):=by kernel_rfl
theorem zU:bv Tryz.prog 32 1=some (1,1):=by kernel_rfl
theorem Av:bv Tryz.prog 32 2=some (2,1):=by kernel_rfl
theorem tY:bv Tryz.prog 32 3=some (3,1):=by kernel_rfl
theorem gQ:bv Tryz.prog 45 0=some (0,1):=by kernel_rfl
theorem fV:bv Tryz.prog 45 1=some (1,1):=by kernel_rfl
theorem ku:bv Tryz.prog 45 2=some (2,1):=by kernel_rfl
theorem kw:bv Tryz.prog 45 3=some (3,1):=by kernel_rfl
theorem Ms:bv Tryz.prog 47 0=some (0,1):=by kernel_rfl
theorem Gs:bv Tryz.prog 47 2=some (2,4):=by kernel_rfl
theorem Mv:bv Tryz.prog 51 0=some (0,1):=by kernel_rfl
theorem GI:bv Tryz.prog 51 1=some (1,4):=by kernel_rfl
theorem oD:bv Tryz.prog 60 0=some (0,1):=by kernel_rfl
theorem nY:bv Tryz.prog 60 1=some (1,1):=by kernel_rfl
theorem JE:bv Tryz.prog 66 0=some (0,1):=by kernel_rfl
theorem J3:bv Tryz.prog 66 1=some (1,1):=by kernel_rfl
theorem JU:bv Tryz.prog 66 2=some (2,1):=by kernel_rfl
theorem uV:szT Tryz.prog 100=some 9:=by kernel_rfl
theorem lX:szT Tryz.prog 127=some 5:=by kernel_rfl
theorem yH:szT Tryz.prog 131=some 6:=by kernel_rfl
theorem D5:szT Tryz.prog 151=some 13:=by kernel_rfl
theorem K6:szT Tryz.prog 154=some 8:=by kernel_rfl
theorem Fj:szT Tryz.prog 157=some 3:=by kernel_rfl
theorem Me:szT Tryz.prog 22=some 1:=by kernel_rfl
theorem mX:szT Tryz.prog 223=some 2:=by kernel_rfl
theorem zJ:szT Tryz.prog 26=some 1:=by kernel_rfl
theorem xk:szT Tryz.prog 28=some 4:=by kernel_rfl
theorem sz3:szT Tryz.prog 3=some 1:=by kernel_rfl
theorem G9:szT Tryz.prog 30=some 1:=by kernel_rfl
theorem ET:szT Tryz.prog 316=some 2:=by kernel_rfl
theorem yg:szT Tryz.prog 32=some 4:=by kernel_rfl
theorem sz35:szT Tryz.prog 35=some 1:=by kernel_rfl
theorem sz4:szT Tryz.prog 4=some 1:=by kernel_rfl
theorem dx:szT Tryz.prog 45=some 4:=by kernel_rfl
theorem LD:szT Tryz.prog 47=some 6:=by kernel_rfl
theorem Et:szT Tryz.prog 51=some 5:=by kernel_rfl
theorem yw:szT Tryz.prog 60=some 2:=by kernel_rfl
theorem sz66:szT Tryz.prog 66=some 3:=by kernel_rfl
theorem Md:szT Tryz.prog 79=some 1:=by kernel_rfl
theorem sz9:szT Tryz.prog 9=some 1:=by kernel_rfl
theorem Mf:szT Tryz.prog 98=some 1:=by kernel_rfl
theorem un140:(Tryz.prog).underlying 140=some (.slice 35):=by kernel_rfl
theorem un141:(Tryz.prog).underlying 141=some (.array 2 45):=by kernel_rfl
theorem un147:(Tryz.prog).underlying 147=some (.slice 60):=by kernel_rfl
theorem Nz:(Tryz.prog).underlying 158=some (.slice 157):=by kernel_rfl
theorem xE:(Tryz.prog).underlying 218=some (.slice 223):=by kernel_rfl
theorem vE:(Tryz.prog).underlying 22=some (.slice 3):=by kernel_rfl
theorem un230:(Tryz.prog).underlying 230=some (.slice 154):=by kernel_rfl
theorem NW:(Tryz.prog).underlying 238=some (.int .u64):=by kernel_rfl
theorem Ah:(Tryz.prog).underlying 26=some (.slice 127):=by kernel_rfl
theorem un260:(Tryz.prog).underlying 260=some (.slice 98):=by kernel_rfl
theorem N7:(Tryz.prog).underlying 272=some (.slice 316):=by kernel_rfl
theorem yT:(Tryz.prog).underlying 289=some (.int .u64):=by kernel_rfl
theorem un3:(Tryz.prog).underlying 3=some (.int .i64):=by kernel_rfl
theorem un30:(Tryz.prog).underlying 30=some (.slice 131):=by kernel_rfl
theorem un34:(Tryz.prog).underlying 34=some (.slice 47):=by kernel_rfl
theorem un4:(Tryz.prog).underlying 4=some .bool:=by kernel_rfl
theorem MU:(Tryz.prog).underlying 40=some (.slice 51):=by kernel_rfl
theorem un5:(Tryz.prog).underlying 5=some (.int .u8):=by kernel_rfl
theorem un56:(Tryz.prog).underlying 56=some (.slice 100):=by kernel_rfl
theorem un63:(Tryz.prog).underlying 63=some (.slice 66):=by kernel_rfl
theorem un77:(Tryz.prog).underlying 77=some (.slice 151):=by kernel_rfl
theorem I6:(Tryz.prog).underlying 79=some (.slice 9):=by kernel_rfl
theorem un9:(Tryz.prog).underlying 9=some .string:=by kernel_rfl
theorem zw:(Tryz.prog).underlying 98=some (.slice 45):=by kernel_rfl
theorem z100:zeroCells Tryz.prog 100=some [.d (.str ⟨#[]⟩),.d (.str ⟨#[]⟩),.d (.int .i64 0),.nil,.d (.int .i64 0),.d (.int .i64 0),.d (.int .i64 0),.nil,.d (.str ⟨#[]⟩)]:=by kernel_rfl
theorem z127:zeroCells Tryz.prog 127=some [.d (.str ⟨#[]⟩),.d (.int .i64 0),.d (.int .i64 0),.d (.int .i64 0),.d (.int .i64 0)]:=by kernel_rfl
theorem z131:zeroCells Tryz.prog 131=some [.d (.str ⟨#[]⟩),.d (.int .i64 0),.d (.int .i64 0),.d (.int .i64 0),.d (.int .i64 0),.d (.int .i64 0)]:=by kernel_rfl
theorem z151:zeroCells Tryz.prog 151=some [.d (.str ⟨#[]⟩),.d (.str ⟨#[]⟩),.d (.int .i64 0),.d (.int .i64 0),.d (.int .i64 0),.d (.int .i64 0),.d (.int .i64 0),.nil,.d (.int .i64 0),.d (.int .i64 0),.d (.int .i64 0),.nil,.d (.bool false)]:=by kernel_rfl
theorem z154:zeroCells Tryz.prog 154=some [.d (.str ⟨#[]⟩),.d (.str ⟨#[]⟩),.d (.int .i64 0),.d (.int .i64 0),.nil,.d (.int .i64 0),.d (.int .i64 0),.d (.int .i64 0)]:=by kernel_rfl
theorem z157:zeroCells Tryz.prog 157=some [.d (.str ⟨#[]⟩),.d (.int .i64 0),.d (.int .i64 0)]:=by kernel_rfl
theorem JL:zeroCells Tryz.prog 223=some [.d (.int .i64 0),.d (.int .i64 0)]:=by kernel_rfl
theorem z28:zeroCells Tryz.prog 28=some [.d (.str ⟨#[]⟩),.d (.int .i64 0),.d (.int .i64 0),.nil]:=by kernel_rfl
theorem z3:zeroCells Tryz.prog 3=some [.d (.int .i64 0)]:=by kernel_rfl
theorem z316:zeroCells Tryz.prog 316=some [.d (.int .i64 0),.d (.int .i64 0)]:=by kernel_rfl
theorem z32:zeroCells Tryz.prog 32=some [.d (.str ⟨#[]⟩),.d (.int .i64 0),.d (.int .i64 0),.nil]:=by kernel_rfl
theorem z45:zeroCells Tryz.prog 45=some [.d (.int .i64 0),.d (.int .i64 0),.d (.int .i64 0),.d (.int .i64 0)]:=by kernel_rfl
theorem z47:zeroCells Tryz.prog 47=some [.d (.str ⟨#[]⟩),.d (.str ⟨#[]⟩),.d (.int .i64 0),.d (.int .i64 0),.d (.int .i64 0),.d (.int .i64 0)]:=by kernel_rfl
theorem z51:zeroCells Tryz.prog 51=some [.d (.str ⟨#[]⟩),.d (.int .i64 0),.d (.int .i64 0),.d (.int .i64 0),.d (.int .i64 0)]:=by kernel_rfl
theorem z60:zeroCells Tryz.prog 60=some [.d (.int .i64 0),.d (.int .i64 0)]:=by kernel_rfl
theorem z66:zeroCells Tryz.prog 66=some [.d (.str ⟨#[]⟩),.d (.int .i64 0),.d (.int .i64 0)]:=by kernel_rfl
end Go.Proofs.YtjhcehhmdmbleaaGreatDoor.Law

