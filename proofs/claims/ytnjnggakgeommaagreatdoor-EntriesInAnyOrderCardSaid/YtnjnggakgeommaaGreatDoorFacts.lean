/-
  Closed facts on the types and functions of the program.
-/
import Derived.Test.YtnjnggakgeommaaGreatDoorProg
import Derived.Test.YtnjnggakgeommaaGreatDoorEng5
open Go Go.Eng Go.Proofs
namespace Go.Proofs.YtnjnggakgeommaaGreatDoor.Law
set_option maxRecDepth 100000
set_option linter.unusedVariables false
set_option maxHeartbeats 1000000
theorem zB:bP Tryz.prog 106=true:=by kernel_rfl
theorem DK:bP Tryz.prog 107=false:=by kernel_rfl
theorem K9:bP Tryz.prog 110=true:=by kernel_rfl
theorem Ih:bP Tryz.prog 113=true:=by kernel_rfl
theorem x9:bP Tryz.prog 116=true:=by kernel_rfl
theorem Ka:bP Tryz.prog 120=true:=by kernel_rfl
theorem uJ:bP Tryz.prog 210=true:=by kernel_rfl
theorem zx:bP Tryz.prog 22=false:=by kernel_rfl
theorem lb_ {a b:Nat} (h:Nat.ble a b=true):a<=b:=Nat.le_of_ble_eq_true h
abbrev SL_:=List (Nat×V)
theorem ag254:bP Tryz.prog 254=true:=by kernel_rfl
theorem ag26:bP Tryz.prog 26=false:=by kernel_rfl
theorem yK:bP Tryz.prog 28=false:=by kernel_rfl
theorem ag3:bP Tryz.prog 3=false:=by kernel_rfl
theorem pu:bP Tryz.prog 35=true:=by kernel_rfl
theorem ag37:bP Tryz.prog 37=false:=by kernel_rfl
theorem ag4:bP Tryz.prog 4=false:=by kernel_rfl
theorem D9:bP Tryz.prog 49=true:=by kernel_rfl
theorem ag9:bP Tryz.prog 9=false:=by kernel_rfl
theorem JU:fV Tryz.prog 106=32:=by kernel_rfl
theorem Iu:fV Tryz.prog 210=16:=by kernel_rfl
theorem by254:fV Tryz.prog 254=16:=by kernel_rfl
theorem by3:fV Tryz.prog 3=8:=by kernel_rfl
theorem Jj:fV Tryz.prog 35=152:=by kernel_rfl
theorem by49:fV Tryz.prog 49=16:=by kernel_rfl
theorem by9:fV Tryz.prog 9=16:=by kernel_rfl
theorem BX:bL Tryz.prog 107=some 106:=by kernel_rfl
theorem zR:bL Tryz.prog 205=some 210:=by kernel_rfl
theorem Ie:bL Tryz.prog 214=some 254:=by kernel_rfl
theorem GG:bL Tryz.prog 22=some 3:=by kernel_rfl
theorem zl:bL Tryz.prog 26=some 35:=by kernel_rfl
theorem FC:bL Tryz.prog 28=some 9:=by kernel_rfl
theorem el56:bL Tryz.prog 56=some 49:=by kernel_rfl
theorem xN:(bL Tryz.prog 107).bind (szT Tryz.prog)=some 4:=by kernel_rfl
theorem D6:(bL Tryz.prog 114).bind (szT Tryz.prog)=some 3:=by kernel_rfl
theorem JQ:(bL Tryz.prog 140).bind (szT Tryz.prog)=some 1:=by kernel_rfl
theorem J8:(bL Tryz.prog 157).bind (szT Tryz.prog)=some 8:=by kernel_rfl
theorem Je:(bL Tryz.prog 161).bind (szT Tryz.prog)=some 9:=by kernel_rfl
theorem LB:(bL Tryz.prog 162).bind (szT Tryz.prog)=some 3:=by kernel_rfl
theorem jS:(bL Tryz.prog 205).bind (szT Tryz.prog)=some 2:=by kernel_rfl
theorem xH:(bL Tryz.prog 214).bind (szT Tryz.prog)=some 2:=by kernel_rfl
theorem kE:(bL Tryz.prog 22).bind (szT Tryz.prog)=some 1:=by kernel_rfl
theorem JZ:(bL Tryz.prog 248).bind (szT Tryz.prog)=some 1:=by kernel_rfl
theorem Cg:(bL Tryz.prog 26).bind (szT Tryz.prog)=some 13:=by kernel_rfl
theorem uw:(bL Tryz.prog 28).bind (szT Tryz.prog)=some 1:=by kernel_rfl
theorem es56:(bL Tryz.prog 56).bind (szT Tryz.prog)=some 2:=by kernel_rfl
theorem es93:(bL Tryz.prog 93).bind (szT Tryz.prog)=some 1:=by kernel_rfl
theorem K3:((bL Tryz.prog 107).bind (zeroCells Tryz.prog)).isSome=true:=by kernel_rfl
theorem ez114:((bL Tryz.prog 114).bind (zeroCells Tryz.prog)).isSome=true:=by kernel_rfl
theorem ez140:((bL Tryz.prog 140).bind (zeroCells Tryz.prog)).isSome=true:=by kernel_rfl
theorem ez157:((bL Tryz.prog 157).bind (zeroCells Tryz.prog)).isSome=true:=by kernel_rfl
theorem ez161:((bL Tryz.prog 161).bind (zeroCells Tryz.prog)).isSome=true:=by kernel_rfl
theorem ez162:((bL Tryz.prog 162).bind (zeroCells Tryz.prog)).isSome=true:=by kernel_rfl
theorem Ii:((bL Tryz.prog 205).bind (zeroCells Tryz.prog)).isSome=true:=by kernel_rfl
theorem ez214:((bL Tryz.prog 214).bind (zeroCells Tryz.prog)).isSome=true:=by kernel_rfl
theorem xE:((bL Tryz.prog 22).bind (zeroCells Tryz.prog)).isSome=true:=by kernel_rfl
theorem ez248:((bL Tryz.prog 248).bind (zeroCells Tryz.prog)).isSome=true:=by kernel_rfl
theorem Kr:((bL Tryz.prog 26).bind (zeroCells Tryz.prog)).isSome=true:=by kernel_rfl
theorem Fq:((bL Tryz.prog 28).bind (zeroCells Tryz.prog)).isSome=true:=by kernel_rfl
theorem ez56:((bL Tryz.prog 56).bind (zeroCells Tryz.prog)).isSome=true:=by kernel_rfl
theorem ez93:((bL Tryz.prog 93).bind (zeroCells Tryz.prog)).isSome=true:=by kernel_rfl
theorem hb10:aI Tryz.prog 10=true:=by kernel_rfl
theorem hb100:aI Tryz.prog 100=true:=by kernel_rfl
theorem hb101:aI Tryz.prog 101=true:=by kernel_rfl
theorem hb102:aI Tryz.prog 102=true:=by kernel_rfl
theorem hb103:aI Tryz.prog 103=true:=by kernel_rfl
theorem hb104:aI Tryz.prog 104=true:=by kernel_rfl
theorem hb105:aI Tryz.prog 105=true:=by kernel_rfl
theorem hb106:aI Tryz.prog 106=true:=by kernel_rfl
theorem hb107:aI Tryz.prog 107=true:=by kernel_rfl
theorem CJ:aI Tryz.prog 108=true:=by kernel_rfl
theorem hb109:aI Tryz.prog 109=true:=by kernel_rfl
theorem Jg:aI Tryz.prog 11=true:=by kernel_rfl
theorem hb110:aI Tryz.prog 110=true:=by kernel_rfl
theorem hb111:aI Tryz.prog 111=true:=by kernel_rfl
theorem hb112:aI Tryz.prog 112=true:=by kernel_rfl
theorem hb115:aI Tryz.prog 115=true:=by kernel_rfl
theorem hb124:aI Tryz.prog 124=true:=by kernel_rfl
theorem hb125:aI Tryz.prog 125=true:=by kernel_rfl
theorem hb13:aI Tryz.prog 13=true:=by kernel_rfl
theorem hb136:aI Tryz.prog 136=true:=by kernel_rfl
theorem hb147:aI Tryz.prog 147=true:=by kernel_rfl
theorem hb152:aI Tryz.prog 152=true:=by kernel_rfl
theorem hb153:aI Tryz.prog 153=true:=by kernel_rfl
theorem hb154:aI Tryz.prog 154=true:=by kernel_rfl
theorem hb155:aI Tryz.prog 155=true:=by kernel_rfl
theorem hb156:aI Tryz.prog 156=true:=by kernel_rfl
theorem hb157:aI Tryz.prog 157=true:=by kernel_rfl
theorem hb158:aI Tryz.prog 158=true:=by kernel_rfl
theorem hb159:aI Tryz.prog 159=true:=by kernel_rfl
theorem hb160:aI Tryz.prog 160=true:=by kernel_rfl
theorem hb161:aI Tryz.prog 161=true:=by kernel_rfl
theorem hb162:aI Tryz.prog 162=true:=by kernel_rfl
theorem hb163:aI Tryz.prog 163=true:=by kernel_rfl
theorem hb164:aI Tryz.prog 164=true:=by kernel_rfl
theorem hb165:aI Tryz.prog 165=true:=by kernel_rfl
theorem hb166:aI Tryz.prog 166=true:=by kernel_rfl
theorem hb167:aI Tryz.prog 167=true:=by kernel_rfl
theorem Im:aI Tryz.prog 169=true:=by kernel_rfl
theorem hb171:aI Tryz.prog 171=true:=by kernel_rfl
theorem hb18:aI Tryz.prog 18=true:=by kernel_rfl
theorem hb19:aI Tryz.prog 19=true:=by kernel_rfl
theorem hb198:aI Tryz.prog 198=true:=by kernel_rfl
theorem hb206:aI Tryz.prog 206=true:=by kernel_rfl
theorem hb207:aI Tryz.prog 207=true:=by kernel_rfl
theorem hb208:aI Tryz.prog 208=true:=by kernel_rfl
theorem hb209:aI Tryz.prog 209=true:=by kernel_rfl
theorem hb21:aI Tryz.prog 21=true:=by kernel_rfl
theorem hb210:aI Tryz.prog 210=true:=by kernel_rfl
theorem hb211:aI Tryz.prog 211=true:=by kernel_rfl
theorem hb212:aI Tryz.prog 212=true:=by kernel_rfl
theorem hb213:aI Tryz.prog 213=true:=by kernel_rfl
theorem hb22:aI Tryz.prog 22=true:=by kernel_rfl
theorem hb23:aI Tryz.prog 23=true:=by kernel_rfl
theorem hb233:aI Tryz.prog 233=true:=by kernel_rfl
theorem hb24:aI Tryz.prog 24=true:=by kernel_rfl
theorem hb249:aI Tryz.prog 249=true:=by kernel_rfl
theorem hb250:aI Tryz.prog 250=true:=by kernel_rfl
theorem hb251:aI Tryz.prog 251=true:=by kernel_rfl
theorem hb252:aI Tryz.prog 252=true:=by kernel_rfl
theorem hb265:aI Tryz.prog 265=true:=by kernel_rfl
theorem hb273:aI Tryz.prog 273=true:=by kernel_rfl
theorem hb274:aI Tryz.prog 274=true:=by kernel_rfl
theorem hb275:aI Tryz.prog 275=true:=by kernel_rfl
theorem Cu:aI Tryz.prog 283=true:=by kernel_rfl
theorem hb284:aI Tryz.prog 284=true:=by kernel_rfl
theorem hb285:aI Tryz.prog 285=true:=by kernel_rfl
theorem hb291:aI Tryz.prog 291=true:=by kernel_rfl
theorem hb297:aI Tryz.prog 297=true:=by kernel_rfl
theorem hb33:aI Tryz.prog 33=true:=by kernel_rfl
theorem hb39:aI Tryz.prog 39=true:=by kernel_rfl
theorem hb40:aI Tryz.prog 40=true:=by kernel_rfl
theorem hb42:aI Tryz.prog 42=true:=by kernel_rfl
theorem hb44:aI Tryz.prog 44=true:=by kernel_rfl
theorem hb45:aI Tryz.prog 45=true:=by kernel_rfl
theorem hb46:aI Tryz.prog 46=true:=by kernel_rfl
theorem hb47:aI Tryz.prog 47=true:=by kernel_rfl
theorem hb48:aI Tryz.prog 48=true:=by kernel_rfl
theorem hb50:aI Tryz.prog 50=true:=by kernel_rfl
theorem Bl:aI Tryz.prog 51=true:=by kernel_rfl
theorem qj:aI Tryz.prog 52=true:=by kernel_rfl
theorem hb53:aI Tryz.prog 53=true:=by kernel_rfl
theorem hb61:aI Tryz.prog 61=true:=by kernel_rfl
theorem hb62:aI Tryz.prog 62=true:=by kernel_rfl
theorem hb63:aI Tryz.prog 63=true:=by kernel_rfl
theorem hb64:aI Tryz.prog 64=true:=by kernel_rfl
theorem GL:aI Tryz.prog 65=true:=by kernel_rfl
theorem hb66:aI Tryz.prog 66=true:=by kernel_rfl
theorem hb67:aI Tryz.prog 67=true:=by kernel_rfl
theorem hb68:aI Tryz.prog 68=true:=by kernel_rfl
theorem hb69:aI Tryz.prog 69=true:=by kernel_rfl
theorem hb75:aI Tryz.prog 75=true:=by kernel_rfl
theorem hb8:aI Tryz.prog 8=true:=by kernel_rfl
theorem hb85:aI Tryz.prog 85=true:=by kernel_rfl
theorem hb86:aI Tryz.prog 86=true:=by kernel_rfl
theorem hb90:aI Tryz.prog 90=true:=by kernel_rfl
theorem hb91:aI Tryz.prog 91=true:=by kernel_rfl
theorem hb92:aI Tryz.prog 92=true:=by kernel_rfl
theorem hb96:aI Tryz.prog 96=true:=by kernel_rfl
theorem hb97:aI Tryz.prog 97=true:=by kernel_rfl
theorem hb98:aI Tryz.prog 98=true:=by kernel_rfl
theorem hb99:aI Tryz.prog 99=true:=by kernel_rfl
theorem mt122:CO Tryz.prog 122=some (9,4):=by kernel_rfl
theorem mt81:CO Tryz.prog 81=some (9,35):=by kernel_rfl
theorem nb148:aI Tryz.prog 148=false:=by kernel_rfl
theorem nb245:aI Tryz.prog 245=false:=by kernel_rfl
theorem vN:bH Tryz.prog 106 0=some (0,1):=by kernel_rfl
theorem qJ:bH Tryz.prog 106 1=some (1,1):=by kernel_rfl
theorem AB:bH Tryz.prog 106 2=some (2,1):=by kernel_rfl
theorem yf:bH Tryz.prog 106 3=some (3,1):=by kernel_rfl
theorem Ex:bH Tryz.prog 110 0=some (0,1):=by kernel_rfl
theorem IA:bH Tryz.prog 110 1=some (1,1):=by kernel_rfl
theorem vF:bH Tryz.prog 110 2=some (2,2):=by kernel_rfl
theorem pl110_3:bH Tryz.prog 110 3=some (4,1):=by kernel_rfl
theorem Ep:bH Tryz.prog 110 4=some (5,1):=by kernel_rfl
theorem pl110_5:bH Tryz.prog 110 5=some (6,1):=by kernel_rfl
theorem pl110_6:bH Tryz.prog 110 6=some (7,1):=by kernel_rfl
theorem vR:bH Tryz.prog 113 0=some (0,1):=by kernel_rfl
theorem yC:bH Tryz.prog 113 1=some (1,1):=by kernel_rfl
theorem yu:bH Tryz.prog 113 2=some (2,1):=by kernel_rfl
theorem vK:bH Tryz.prog 116 0=some (0,1):=by kernel_rfl
theorem pl116_1:bH Tryz.prog 116 1=some (1,1):=by kernel_rfl
theorem EC:bH Tryz.prog 116 2=some (2,1):=by kernel_rfl
theorem Ao:bH Tryz.prog 116 3=some (3,1):=by kernel_rfl
theorem xO:bH Tryz.prog 116 4=some (4,1):=by kernel_rfl
theorem pl116_5:bH Tryz.prog 116 5=some (5,1):=by kernel_rfl
theorem pl116_6:bH Tryz.prog 116 6=some (6,1):=by kernel_rfl
theorem AA:bH Tryz.prog 116 7=some (7,1):=by kernel_rfl
theorem Eu:bH Tryz.prog 116 8=some (8,1):=by kernel_rfl
theorem EM:bH Tryz.prog 120 0=some (0,1):=by kernel_rfl
theorem EE:bH Tryz.prog 120 1=some (1,1):=by kernel_rfl
theorem EZ:bH Tryz.prog 120 2=some (2,1):=by kernel_rfl
theorem jQ:bH Tryz.prog 210 0=some (0,1):=by kernel_rfl
theorem o8:bH Tryz.prog 210 1=some (1,1):=by kernel_rfl
theorem qF:bH Tryz.prog 254 0=some (0,1):=by kernel_rfl
theorem tq:bH Tryz.prog 254 1=some (1,1):=by kernel_rfl
theorem Ei:bH Tryz.prog 25 0=some (0,1):=by kernel_rfl
theorem Cq:bH Tryz.prog 25 1=some (1,1):=by kernel_rfl
theorem uM:bH Tryz.prog 35 0=some (0,1):=by kernel_rfl
theorem Fb:bH Tryz.prog 35 1=some (1,1):=by kernel_rfl
theorem xC:bH Tryz.prog 35 10=some (10,1):=by kernel_rfl
theorem lI:bH Tryz.prog 35 11=some (11,1):=by kernel_rfl
theorem Ay:bH Tryz.prog 35 12=some (12,1):=by kernel_rfl
theorem oL:bH Tryz.prog 35 2=some (2,1):=by kernel_rfl
theorem uV:bH Tryz.prog 35 3=some (3,1):=by kernel_rfl
theorem ve:bH Tryz.prog 35 4=some (4,1):=by kernel_rfl
theorem Bq:bH Tryz.prog 35 5=some (5,1):=by kernel_rfl
theorem BC:bH Tryz.prog 35 6=some (6,1):=by kernel_rfl
theorem mZ:bH Tryz.prog 35 7=some (7,1):=by kernel_rfl
theorem y9:bH Tryz.prog 35 8=some (8,1):=by kernel_rfl
theorem Bp:bH Tryz.prog 35 9=some (9,1):=by kernel_rfl
theorem nu:bH Tryz.prog 49 0=some (0,1):=by kernel_rfl
theorem mY:bH Tryz.prog 49 1=some (1,1):=by kernel_rfl
theorem nY:szT Tryz.prog 106=some 4:=by kernel_rfl
theorem Dm:szT Tryz.prog 107=some 1:=by kernel_rfl
theorem II:szT Tryz.prog 110=some 8:=by kernel_rfl
theorem DY:szT Tryz.prog 113=some 3:=by kernel_rfl
theorem ut:szT Tryz.prog 116=some 9:=by kernel_rfl
theorem Il:szT Tryz.prog 120=some 3:=by kernel_rfl
theorem lW:szT Tryz.prog 210=some 2:=by kernel_rfl
theorem u6:szT Tryz.prog 22=some 1:=by kernel_rfl
theorem Dk:szT Tryz.prog 254=some 2:=by kernel_rfl
theorem sz26:szT Tryz.prog 26=some 1:=by kernel_rfl
theorem uX:szT Tryz.prog 28=some 1:=by kernel_rfl
theorem sz3:szT Tryz.prog 3=some 1:=by kernel_rfl
theorem iX:szT Tryz.prog 35=some 13:=by kernel_rfl
theorem sz37:szT Tryz.prog 37=some 1:=by kernel_rfl
theorem sz4:szT Tryz.prog 4=some 1:=by kernel_rfl
theorem xn:szT Tryz.prog 49=some 2:=by kernel_rfl
theorem sz9:szT Tryz.prog 9=some 1:=by kernel_rfl
theorem rM:(Tryz.prog).underlying 107=some (.slice 106):=by kernel_rfl
theorem JY:(Tryz.prog).underlying 114=some (.slice 113):=by kernel_rfl
theorem un140:(Tryz.prog).underlying 140=some (.slice 26):=by kernel_rfl
theorem KY:(Tryz.prog).underlying 148=some (.int .u64):=by kernel_rfl
theorem un157:(Tryz.prog).underlying 157=some (.slice 110):=by kernel_rfl
theorem KR:(Tryz.prog).underlying 161=some (.slice 116):=by kernel_rfl
theorem un162:(Tryz.prog).underlying 162=some (.slice 120):=by kernel_rfl
theorem xP:(Tryz.prog).underlying 192=some (.int .u64):=by kernel_rfl
theorem wN:(Tryz.prog).underlying 205=some (.slice 210):=by kernel_rfl
theorem Lt:(Tryz.prog).underlying 214=some (.slice 254):=by kernel_rfl
theorem qi:(Tryz.prog).underlying 22=some (.slice 3):=by kernel_rfl
theorem un248:(Tryz.prog).underlying 248=some (.slice 107):=by kernel_rfl
theorem BG:(Tryz.prog).underlying 26=some (.slice 35):=by kernel_rfl
theorem xc:(Tryz.prog).underlying 28=some (.slice 9):=by kernel_rfl
theorem un3:(Tryz.prog).underlying 3=some (.int .i64):=by kernel_rfl
theorem un4:(Tryz.prog).underlying 4=some .bool:=by kernel_rfl
theorem un5:(Tryz.prog).underlying 5=some (.int .u8):=by kernel_rfl
theorem un56:(Tryz.prog).underlying 56=some (.slice 49):=by kernel_rfl
theorem un80:(Tryz.prog).underlying 80=some (.array 2 26):=by kernel_rfl
theorem un9:(Tryz.prog).underlying 9=some .string:=by kernel_rfl
theorem un93:(Tryz.prog).underlying 93=some (.slice 37):=by kernel_rfl
theorem Fv:zeroCells Tryz.prog 106=some [.d (.int .i64 0),.d (.int .i64 0),.d (.int .i64 0),.d (.int .i64 0)]:=by kernel_rfl
theorem z110:zeroCells Tryz.prog 110=some [.d (.str ⟨#[]⟩),.d (.str ⟨#[]⟩),.d (.int .i64 0),.d (.int .i64 0),.nil,.d (.int .i64 0),.d (.int .i64 0),.d (.int .i64 0)]:=by kernel_rfl
theorem z113:zeroCells Tryz.prog 113=some [.d (.str ⟨#[]⟩),.d (.int .i64 0),.d (.int .i64 0)]:=by kernel_rfl
theorem z116:zeroCells Tryz.prog 116=some [.d (.str ⟨#[]⟩),.d (.str ⟨#[]⟩),.d (.int .i64 0),.nil,.d (.int .i64 0),.d (.int .i64 0),.d (.int .i64 0),.nil,.d (.str ⟨#[]⟩)]:=by kernel_rfl
theorem z120:zeroCells Tryz.prog 120=some [.d (.str ⟨#[]⟩),.d (.int .i64 0),.d (.int .i64 0)]:=by kernel_rfl
theorem z210:zeroCells Tryz.prog 210=some [.d (.int .i64 0),.d (.int .i64 0)]:=by kernel_rfl
theorem z254:zeroCells Tryz.prog 254=some [.d (.int .i64 0),.d (.int .i64 0)]:=by kernel_rfl
theorem z3:zeroCells Tryz.prog 3=some [.d (.int .i64 0)]:=by kernel_rfl
theorem z35:zeroCells Tryz.prog 35=some [.d (.str ⟨#[]⟩),.d (.str ⟨#[]⟩),.d (.int .i64 0),.d (.int .i64 0),.d (.int .i64 0),.d (.int .i64 0),.d (.int .i64 0),.nil,.d (.int .i64 0),.d (.int .i64 0),.d (.int .i64 0),.nil,.d (.bool false)]:=by kernel_rfl
theorem z49:zeroCells Tryz.prog 49=some [.d (.int .i64 0),.d (.int .i64 0)]:=by kernel_rfl
theorem z9:zeroCells Tryz.prog 9=some [.d (.str ⟨#[]⟩)]:=by kernel_rfl
theorem GJ : ∀ w, Go.Eng.FH w → Go.Lib.TabIs Go.Proofs.Tryz.prog w "internal/strconv.uint64pow10" .u64 Go.Lib.pow10Tab := fun _ h => h
end Go.Proofs.YtnjnggakgeommaaGreatDoor.Law

