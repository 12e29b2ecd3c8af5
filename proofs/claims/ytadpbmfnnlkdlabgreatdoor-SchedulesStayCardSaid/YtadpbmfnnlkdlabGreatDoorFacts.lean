/-
  Closed facts on the types and functions of the program.
-/
import Derived.Test.YtadpbmfnnlkdlabGreatDoorProg
import Derived.Test.YtadpbmfnnlkdlabGreatDoorEng5
open Go Go.Eng Go.Proofs
namespace Go.Proofs.YtadpbmfnnlkdlabGreatDoor.Law
set_option maxRecDepth 100000
set_option linter.unusedVariables false
set_option maxHeartbeats 1000000
theorem Qw:cO Tryz.prog 101=true:=by kernel_rfl
theorem yZ:cO Tryz.prog 164=true:=by kernel_rfl
theorem lb_ {a b:Nat} (h:Nat.ble a b=true):a<=b:=Nat.le_of_ble_eq_true h
abbrev SL_:=List (Nat×V)
theorem ag205:cO Tryz.prog 205=true:=by kernel_rfl
theorem xE:cO Tryz.prog 22=false:=by kernel_rfl
theorem ag26:cO Tryz.prog 26=false:=by kernel_rfl
theorem xn:cO Tryz.prog 28=false:=by kernel_rfl
theorem ag3:cO Tryz.prog 3=false:=by kernel_rfl
theorem Bg:cO Tryz.prog 30=true:=by kernel_rfl
theorem ag32:cO Tryz.prog 32=false:=by kernel_rfl
theorem qx:cO Tryz.prog 37=true:=by kernel_rfl
theorem ag4:cO Tryz.prog 4=false:=by kernel_rfl
theorem tK:cO Tryz.prog 46=true:=by kernel_rfl
theorem ag49:cO Tryz.prog 49=true:=by kernel_rfl
theorem QV:cO Tryz.prog 74=false:=by kernel_rfl
theorem CP:cO Tryz.prog 76=true:=by kernel_rfl
theorem LP:cO Tryz.prog 84=true:=by kernel_rfl
theorem Oy:cO Tryz.prog 85=false:=by kernel_rfl
theorem ag9:cO Tryz.prog 9=false:=by kernel_rfl
theorem ag91:cO Tryz.prog 91=true:=by kernel_rfl
theorem ag94:cO Tryz.prog 94=true:=by kernel_rfl
theorem Kj:cO Tryz.prog 97=true:=by kernel_rfl
theorem NN:gM Tryz.prog 164=16:=by kernel_rfl
theorem by205:gM Tryz.prog 205=16:=by kernel_rfl
theorem by3:gM Tryz.prog 3=8:=by kernel_rfl
theorem by37:gM Tryz.prog 37=152:=by kernel_rfl
theorem by46:gM Tryz.prog 46=16:=by kernel_rfl
theorem by49:gM Tryz.prog 49=32:=by kernel_rfl
theorem by76:gM Tryz.prog 76=24:=by kernel_rfl
theorem by84:gM Tryz.prog 84=32:=by kernel_rfl
theorem by9:gM Tryz.prog 9=16:=by kernel_rfl
theorem Ee:bR Tryz.prog 159=some 164:=by kernel_rfl
theorem NE:bR Tryz.prog 170=some 205:=by kernel_rfl
theorem Jy:bR Tryz.prog 22=some 3:=by kernel_rfl
theorem JV:bR Tryz.prog 26=some 37:=by kernel_rfl
theorem Hy:bR Tryz.prog 28=some 9:=by kernel_rfl
theorem el42:bR Tryz.prog 42=some 49:=by kernel_rfl
theorem MB:bR Tryz.prog 72=some 76:=by kernel_rfl
theorem Mi:bR Tryz.prog 85=some 84:=by kernel_rfl
theorem el86:bR Tryz.prog 86=some 46:=by kernel_rfl
theorem Pv:(bR Tryz.prog 104).bind (szT Tryz.prog)=some 1:=by kernel_rfl
theorem Qh:(bR Tryz.prog 129).bind (szT Tryz.prog)=some 8:=by kernel_rfl
theorem NL:(bR Tryz.prog 133).bind (szT Tryz.prog)=some 9:=by kernel_rfl
theorem Pm:(bR Tryz.prog 134).bind (szT Tryz.prog)=some 3:=by kernel_rfl
theorem es136:(bR Tryz.prog 136).bind (szT Tryz.prog)=some 1:=by kernel_rfl
theorem mP:(bR Tryz.prog 159).bind (szT Tryz.prog)=some 2:=by kernel_rfl
theorem CK:(bR Tryz.prog 170).bind (szT Tryz.prog)=some 2:=by kernel_rfl
theorem QF:(bR Tryz.prog 198).bind (szT Tryz.prog)=some 1:=by kernel_rfl
theorem ko:(bR Tryz.prog 22).bind (szT Tryz.prog)=some 1:=by kernel_rfl
theorem yX:(bR Tryz.prog 26).bind (szT Tryz.prog)=some 13:=by kernel_rfl
theorem qW:(bR Tryz.prog 28).bind (szT Tryz.prog)=some 1:=by kernel_rfl
theorem es42:(bR Tryz.prog 42).bind (szT Tryz.prog)=some 3:=by kernel_rfl
theorem es59:(bR Tryz.prog 59).bind (szT Tryz.prog)=some 1:=by kernel_rfl
theorem CL:(bR Tryz.prog 72).bind (szT Tryz.prog)=some 3:=by kernel_rfl
theorem Jg:(bR Tryz.prog 85).bind (szT Tryz.prog)=some 4:=by kernel_rfl
theorem OB:(bR Tryz.prog 86).bind (szT Tryz.prog)=some 2:=by kernel_rfl
theorem OW:(bR Tryz.prog 95).bind (szT Tryz.prog)=some 3:=by kernel_rfl
theorem ez104:((bR Tryz.prog 104).bind (zeroCells Tryz.prog)).isSome=true:=by kernel_rfl
theorem ez129:((bR Tryz.prog 129).bind (zeroCells Tryz.prog)).isSome=true:=by kernel_rfl
theorem ez133:((bR Tryz.prog 133).bind (zeroCells Tryz.prog)).isSome=true:=by kernel_rfl
theorem ez134:((bR Tryz.prog 134).bind (zeroCells Tryz.prog)).isSome=true:=by kernel_rfl
theorem ez136:((bR Tryz.prog 136).bind (zeroCells Tryz.prog)).isSome=true:=by kernel_rfl
theorem M6:((bR Tryz.prog 159).bind (zeroCells Tryz.prog)).isSome=true:=by kernel_rfl
theorem ez170:((bR Tryz.prog 170).bind (zeroCells Tryz.prog)).isSome=true:=by kernel_rfl
theorem ez198:((bR Tryz.prog 198).bind (zeroCells Tryz.prog)).isSome=true:=by kernel_rfl
theorem yQ:((bR Tryz.prog 22).bind (zeroCells Tryz.prog)).isSome=true:=by kernel_rfl
theorem ez26:((bR Tryz.prog 26).bind (zeroCells Tryz.prog)).isSome=true:=by kernel_rfl
theorem Gq:((bR Tryz.prog 28).bind (zeroCells Tryz.prog)).isSome=true:=by kernel_rfl
theorem ez42:((bR Tryz.prog 42).bind (zeroCells Tryz.prog)).isSome=true:=by kernel_rfl
theorem ez59:((bR Tryz.prog 59).bind (zeroCells Tryz.prog)).isSome=true:=by kernel_rfl
theorem ez72:((bR Tryz.prog 72).bind (zeroCells Tryz.prog)).isSome=true:=by kernel_rfl
theorem ez85:((bR Tryz.prog 85).bind (zeroCells Tryz.prog)).isSome=true:=by kernel_rfl
theorem ez86:((bR Tryz.prog 86).bind (zeroCells Tryz.prog)).isSome=true:=by kernel_rfl
theorem ez95:((bR Tryz.prog 95).bind (zeroCells Tryz.prog)).isSome=true:=by kernel_rfl
theorem fr76_0:Jv Tryz.prog 76 0=some (0,1,false):=by kernel_rfl
theorem hb10:aJ Tryz.prog 10=true:=by kernel_rfl
theorem hb100:aJ Tryz.prog 100=true:=by kernel_rfl
theorem hb101:aJ Tryz.prog 101=true:=by kernel_rfl
theorem hb102:aJ Tryz.prog 102=true:=by kernel_rfl
theorem hb103:aJ Tryz.prog 103=true:=by kernel_rfl
theorem hb104:aJ Tryz.prog 104=true:=by kernel_rfl
theorem hb105:aJ Tryz.prog 105=true:=by kernel_rfl
theorem hb106:aJ Tryz.prog 106=true:=by kernel_rfl
theorem hb107:aJ Tryz.prog 107=true:=by kernel_rfl
theorem hb108:aJ Tryz.prog 108=true:=by kernel_rfl
theorem hb109:aJ Tryz.prog 109=true:=by kernel_rfl
theorem hb11:aJ Tryz.prog 11=true:=by kernel_rfl
theorem hb110:aJ Tryz.prog 110=true:=by kernel_rfl
theorem hb117:aJ Tryz.prog 117=true:=by kernel_rfl
theorem hb12:aJ Tryz.prog 12=true:=by kernel_rfl
theorem hb121:aJ Tryz.prog 121=true:=by kernel_rfl
theorem hb122:aJ Tryz.prog 122=true:=by kernel_rfl
theorem hb13:aJ Tryz.prog 13=true:=by kernel_rfl
theorem hb131:aJ Tryz.prog 131=true:=by kernel_rfl
theorem hb136:aJ Tryz.prog 136=true:=by kernel_rfl
theorem hb137:aJ Tryz.prog 137=true:=by kernel_rfl
theorem hb138:aJ Tryz.prog 138=true:=by kernel_rfl
theorem hb139:aJ Tryz.prog 139=true:=by kernel_rfl
theorem hb14:aJ Tryz.prog 14=true:=by kernel_rfl
theorem hb140:aJ Tryz.prog 140=true:=by kernel_rfl
theorem hb141:aJ Tryz.prog 141=true:=by kernel_rfl
theorem hb142:aJ Tryz.prog 142=true:=by kernel_rfl
theorem hb143:aJ Tryz.prog 143=true:=by kernel_rfl
theorem hb149:aJ Tryz.prog 149=true:=by kernel_rfl
theorem hb15:aJ Tryz.prog 15=true:=by kernel_rfl
theorem hb150:aJ Tryz.prog 150=true:=by kernel_rfl
theorem hb16:aJ Tryz.prog 16=true:=by kernel_rfl
theorem hb161:aJ Tryz.prog 161=true:=by kernel_rfl
theorem hb17:aJ Tryz.prog 17=true:=by kernel_rfl
theorem hb170:aJ Tryz.prog 170=true:=by kernel_rfl
theorem hb171:aJ Tryz.prog 171=true:=by kernel_rfl
theorem hb172:aJ Tryz.prog 172=true:=by kernel_rfl
theorem hb173:aJ Tryz.prog 173=true:=by kernel_rfl
theorem hb18:aJ Tryz.prog 18=true:=by kernel_rfl
theorem hb183:aJ Tryz.prog 183=true:=by kernel_rfl
theorem hb19:aJ Tryz.prog 19=true:=by kernel_rfl
theorem hb191:aJ Tryz.prog 191=true:=by kernel_rfl
theorem hb192:aJ Tryz.prog 192=true:=by kernel_rfl
theorem hb193:aJ Tryz.prog 193=true:=by kernel_rfl
theorem Kw:aJ Tryz.prog 20=true:=by kernel_rfl
theorem FQ:aJ Tryz.prog 200=true:=by kernel_rfl
theorem hb201:aJ Tryz.prog 201=true:=by kernel_rfl
theorem hb202:aJ Tryz.prog 202=true:=by kernel_rfl
theorem hb208:aJ Tryz.prog 208=true:=by kernel_rfl
theorem QI:aJ Tryz.prog 21=true:=by kernel_rfl
theorem hb214:aJ Tryz.prog 214=true:=by kernel_rfl
theorem hb218:aJ Tryz.prog 218=true:=by kernel_rfl
theorem hb22:aJ Tryz.prog 22=true:=by kernel_rfl
theorem hb23:aJ Tryz.prog 23=true:=by kernel_rfl
theorem hb24:aJ Tryz.prog 24=true:=by kernel_rfl
theorem hb25:aJ Tryz.prog 25=true:=by kernel_rfl
theorem hb26:aJ Tryz.prog 26=true:=by kernel_rfl
theorem hb27:aJ Tryz.prog 27=true:=by kernel_rfl
theorem hb28:aJ Tryz.prog 28=true:=by kernel_rfl
theorem hb29:aJ Tryz.prog 29=true:=by kernel_rfl
theorem hb30:aJ Tryz.prog 30=true:=by kernel_rfl
theorem hb31:aJ Tryz.prog 31=true:=by kernel_rfl
theorem hb32:aJ Tryz.prog 32=true:=by kernel_rfl
theorem hb33:aJ Tryz.prog 33=true:=by kernel_rfl
theorem hb34:aJ Tryz.prog 34=true:=by kernel_rfl
theorem hb35:aJ Tryz.prog 35=true:=by kernel_rfl
theorem hb36:aJ Tryz.prog 36=true:=by kernel_rfl
theorem hb37:aJ Tryz.prog 37=true:=by kernel_rfl
theorem hb38:aJ Tryz.prog 38=true:=by kernel_rfl
theorem hb39:aJ Tryz.prog 39=true:=by kernel_rfl
theorem hb4:aJ Tryz.prog 4=true:=by kernel_rfl
theorem hb40:aJ Tryz.prog 40=true:=by kernel_rfl
theorem hb41:aJ Tryz.prog 41=true:=by kernel_rfl
theorem hb42:aJ Tryz.prog 42=true:=by kernel_rfl
theorem hb46:aJ Tryz.prog 46=true:=by kernel_rfl
theorem hb47:aJ Tryz.prog 47=true:=by kernel_rfl
theorem hb48:aJ Tryz.prog 48=true:=by kernel_rfl
theorem LJ:aJ Tryz.prog 49=true:=by kernel_rfl
theorem hb5:aJ Tryz.prog 5=true:=by kernel_rfl
theorem hb50:aJ Tryz.prog 50=true:=by kernel_rfl
theorem hb51:aJ Tryz.prog 51=true:=by kernel_rfl
theorem hb52:aJ Tryz.prog 52=true:=by kernel_rfl
theorem hb53:aJ Tryz.prog 53=true:=by kernel_rfl
theorem hb54:aJ Tryz.prog 54=true:=by kernel_rfl
theorem QT:aJ Tryz.prog 55=true:=by kernel_rfl
theorem hb56:aJ Tryz.prog 56=true:=by kernel_rfl
theorem hb57:aJ Tryz.prog 57=true:=by kernel_rfl
theorem hb58:aJ Tryz.prog 58=true:=by kernel_rfl
theorem hb59:aJ Tryz.prog 59=true:=by kernel_rfl
theorem hb6:aJ Tryz.prog 6=true:=by kernel_rfl
theorem hb60:aJ Tryz.prog 60=true:=by kernel_rfl
theorem hb61:aJ Tryz.prog 61=true:=by kernel_rfl
theorem hb62:aJ Tryz.prog 62=true:=by kernel_rfl
theorem hb63:aJ Tryz.prog 63=true:=by kernel_rfl
theorem hb64:aJ Tryz.prog 64=true:=by kernel_rfl
theorem hb65:aJ Tryz.prog 65=true:=by kernel_rfl
theorem hb66:aJ Tryz.prog 66=true:=by kernel_rfl
theorem tT:aJ Tryz.prog 67=true:=by kernel_rfl
theorem hb68:aJ Tryz.prog 68=true:=by kernel_rfl
theorem hb69:aJ Tryz.prog 69=true:=by kernel_rfl
theorem hb7:aJ Tryz.prog 7=true:=by kernel_rfl
theorem hb70:aJ Tryz.prog 70=true:=by kernel_rfl
theorem hb71:aJ Tryz.prog 71=true:=by kernel_rfl
theorem hb72:aJ Tryz.prog 72=true:=by kernel_rfl
theorem hb73:aJ Tryz.prog 73=true:=by kernel_rfl
theorem hb74:aJ Tryz.prog 74=true:=by kernel_rfl
theorem Dk:aJ Tryz.prog 75=true:=by kernel_rfl
theorem hb76:aJ Tryz.prog 76=true:=by kernel_rfl
theorem hb77:aJ Tryz.prog 77=true:=by kernel_rfl
theorem hb8:aJ Tryz.prog 8=true:=by kernel_rfl
theorem hb80:aJ Tryz.prog 80=true:=by kernel_rfl
theorem hb81:aJ Tryz.prog 81=true:=by kernel_rfl
theorem hb83:aJ Tryz.prog 83=true:=by kernel_rfl
theorem hb84:aJ Tryz.prog 84=true:=by kernel_rfl
theorem hb85:aJ Tryz.prog 85=true:=by kernel_rfl
theorem hb86:aJ Tryz.prog 86=true:=by kernel_rfl
theorem hb87:aJ Tryz.prog 87=true:=by kernel_rfl
theorem hb88:aJ Tryz.prog 88=true:=by kernel_rfl
theorem hb9:aJ Tryz.prog 9=true:=by kernel_rfl
theorem hb93:aJ Tryz.prog 93=true:=by kernel_rfl
theorem hb94:aJ Tryz.prog 94=true:=by kernel_rfl
theorem hb95:aJ Tryz.prog 95=true:=by kernel_rfl
theorem hb96:aJ Tryz.prog 96=true:=by kernel_rfl
theorem hb97:aJ Tryz.prog 97=true:=by kernel_rfl
theorem hb98:aJ Tryz.prog 98=true:=by kernel_rfl
theorem hb99:aJ Tryz.prog 99=true:=by kernel_rfl
theorem mt208:DV Tryz.prog 208=some (9,4):=by kernel_rfl
theorem mt63:DV Tryz.prog 63=some (9,37):=by kernel_rfl
theorem nb154:aJ Tryz.prog 154=false:=by kernel_rfl
theorem nb224:aJ Tryz.prog 224=false:=by kernel_rfl
theorem Jl:bQ Tryz.prog 101 0=some (0,1):=by kernel_rfl
theorem Jz:bQ Tryz.prog 101 1=some (1,1):=by kernel_rfl
theorem JE:bQ Tryz.prog 101 2=some (2,1):=by kernel_rfl
theorem mE:bQ Tryz.prog 164 0=some (0,1):=by kernel_rfl
theorem tZ:bQ Tryz.prog 164 1=some (1,1):=by kernel_rfl
theorem vo:bQ Tryz.prog 205 0=some (0,1):=by kernel_rfl
theorem xP:bQ Tryz.prog 205 1=some (1,1):=by kernel_rfl
theorem Jn:bQ Tryz.prog 25 0=some (0,1):=by kernel_rfl
theorem Hq:bQ Tryz.prog 25 1=some (1,1):=by kernel_rfl
theorem pl30_0:bQ Tryz.prog 30 0=some (0,1):=by kernel_rfl
theorem pl30_1:bQ Tryz.prog 30 1=some (1,1):=by kernel_rfl
theorem Mq:bQ Tryz.prog 30 2=some (2,1):=by kernel_rfl
theorem JK:bQ Tryz.prog 30 3=some (3,1):=by kernel_rfl
theorem sU:bQ Tryz.prog 37 0=some (0,1):=by kernel_rfl
theorem J8:bQ Tryz.prog 37 1=some (1,1):=by kernel_rfl
theorem zQ:bQ Tryz.prog 37 10=some (10,1):=by kernel_rfl
theorem mI:bQ Tryz.prog 37 11=some (11,1):=by kernel_rfl
theorem CG:bQ Tryz.prog 37 12=some (12,1):=by kernel_rfl
theorem zL:bQ Tryz.prog 37 2=some (2,1):=by kernel_rfl
theorem yf:bQ Tryz.prog 37 3=some (3,1):=by kernel_rfl
theorem xM:bQ Tryz.prog 37 4=some (4,1):=by kernel_rfl
theorem G9:bQ Tryz.prog 37 5=some (5,1):=by kernel_rfl
theorem Gs:bQ Tryz.prog 37 6=some (6,1):=by kernel_rfl
theorem pU:bQ Tryz.prog 37 7=some (7,1):=by kernel_rfl
theorem Dm:bQ Tryz.prog 37 8=some (8,1):=by kernel_rfl
theorem F7:bQ Tryz.prog 37 9=some (9,1):=by kernel_rfl
theorem jB:bQ Tryz.prog 46 0=some (0,1):=by kernel_rfl
theorem kz:bQ Tryz.prog 46 1=some (1,1):=by kernel_rfl
theorem pl49_0:bQ Tryz.prog 49 0=some (0,2):=by kernel_rfl
theorem pl49_1:bQ Tryz.prog 49 1=some (2,1):=by kernel_rfl
theorem Gb:bQ Tryz.prog 76 0=some (0,1):=by kernel_rfl
theorem Bf:bQ Tryz.prog 76 1=some (1,2):=by kernel_rfl
theorem Dv:bQ Tryz.prog 84 0=some (0,1):=by kernel_rfl
theorem ze:bQ Tryz.prog 84 1=some (1,1):=by kernel_rfl
theorem JY:bQ Tryz.prog 84 2=some (2,1):=by kernel_rfl
theorem Hr:bQ Tryz.prog 84 3=some (3,1):=by kernel_rfl
theorem Ms:bQ Tryz.prog 91 0=some (0,1):=by kernel_rfl
theorem Qv:bQ Tryz.prog 91 1=some (1,1):=by kernel_rfl
theorem Di:bQ Tryz.prog 91 2=some (2,2):=by kernel_rfl
theorem pl91_3:bQ Tryz.prog 91 3=some (4,1):=by kernel_rfl
theorem MS:bQ Tryz.prog 91 4=some (5,1):=by kernel_rfl
theorem pl91_5:bQ Tryz.prog 91 5=some (6,1):=by kernel_rfl
theorem pl91_6:bQ Tryz.prog 91 6=some (7,1):=by kernel_rfl
theorem DN:bQ Tryz.prog 94 0=some (0,1):=by kernel_rfl
theorem Gz:bQ Tryz.prog 94 1=some (1,1):=by kernel_rfl
theorem Gi:bQ Tryz.prog 94 2=some (2,1):=by kernel_rfl
theorem Dr:bQ Tryz.prog 97 0=some (0,1):=by kernel_rfl
theorem pl97_1:bQ Tryz.prog 97 1=some (1,1):=by kernel_rfl
theorem Mw:bQ Tryz.prog 97 2=some (2,1):=by kernel_rfl
theorem Kb:bQ Tryz.prog 97 3=some (3,1):=by kernel_rfl
theorem G7:bQ Tryz.prog 97 4=some (4,1):=by kernel_rfl
theorem pl97_5:bQ Tryz.prog 97 5=some (5,1):=by kernel_rfl
theorem pl97_6:bQ Tryz.prog 97 6=some (6,1):=by kernel_rfl
theorem Jf:bQ Tryz.prog 97 7=some (7,1):=by kernel_rfl
theorem Mg:bQ Tryz.prog 97 8=some (8,1):=by kernel_rfl
theorem Nw:szT Tryz.prog 101=some 3:=by kernel_rfl
theorem o9:szT Tryz.prog 164=some 2:=by kernel_rfl
theorem IG:szT Tryz.prog 205=some 2:=by kernel_rfl
theorem sF:szT Tryz.prog 22=some 1:=by kernel_rfl
theorem sz26:szT Tryz.prog 26=some 1:=by kernel_rfl
theorem tV:szT Tryz.prog 28=some 1:=by kernel_rfl
theorem sz3:szT Tryz.prog 3=some 1:=by kernel_rfl
theorem yM:szT Tryz.prog 30=some 4:=by kernel_rfl
theorem sz32:szT Tryz.prog 32=some 1:=by kernel_rfl
theorem kH:szT Tryz.prog 37=some 13:=by kernel_rfl
theorem sz4:szT Tryz.prog 4=some 1:=by kernel_rfl
theorem mM:szT Tryz.prog 46=some 2:=by kernel_rfl
theorem sz49:szT Tryz.prog 49=some 3:=by kernel_rfl
theorem Qn:szT Tryz.prog 74=some 1:=by kernel_rfl
theorem qE:szT Tryz.prog 76=some 3:=by kernel_rfl
theorem zt:szT Tryz.prog 84=some 4:=by kernel_rfl
theorem N8:szT Tryz.prog 85=some 1:=by kernel_rfl
theorem sz9:szT Tryz.prog 9=some 1:=by kernel_rfl
theorem sz91:szT Tryz.prog 91=some 8:=by kernel_rfl
theorem Od:szT Tryz.prog 94=some 3:=by kernel_rfl
theorem Ez:szT Tryz.prog 97=some 9:=by kernel_rfl
theorem un104:(Tryz.prog).underlying 104=some (.slice 26):=by kernel_rfl
theorem un129:(Tryz.prog).underlying 129=some (.slice 91):=by kernel_rfl
theorem Qt:(Tryz.prog).underlying 133=some (.slice 97):=by kernel_rfl
theorem un134:(Tryz.prog).underlying 134=some (.slice 101):=by kernel_rfl
theorem un136:(Tryz.prog).underlying 136=some (.slice 32):=by kernel_rfl
theorem KN:(Tryz.prog).underlying 142=some (.int .u64):=by kernel_rfl
theorem AL:(Tryz.prog).underlying 159=some (.slice 164):=by kernel_rfl
theorem QW:(Tryz.prog).underlying 170=some (.slice 205):=by kernel_rfl
theorem CO:(Tryz.prog).underlying 188=some (.int .u64):=by kernel_rfl
theorem un198:(Tryz.prog).underlying 198=some (.slice 85):=by kernel_rfl
theorem sN:(Tryz.prog).underlying 22=some (.slice 3):=by kernel_rfl
theorem Cv:(Tryz.prog).underlying 26=some (.slice 37):=by kernel_rfl
theorem yz:(Tryz.prog).underlying 28=some (.slice 9):=by kernel_rfl
theorem un3:(Tryz.prog).underlying 3=some (.int .i64):=by kernel_rfl
theorem un4:(Tryz.prog).underlying 4=some .bool:=by kernel_rfl
theorem un42:(Tryz.prog).underlying 42=some (.slice 49):=by kernel_rfl
theorem un5:(Tryz.prog).underlying 5=some (.int .u8):=by kernel_rfl
theorem un61:(Tryz.prog).underlying 61=some (.array 2 26):=by kernel_rfl
theorem EE:(Tryz.prog).underlying 72=some (.slice 76):=by kernel_rfl
theorem DL:(Tryz.prog).underlying 85=some (.slice 84):=by kernel_rfl
theorem un86:(Tryz.prog).underlying 86=some (.slice 46):=by kernel_rfl
theorem un9:(Tryz.prog).underlying 9=some .string:=by kernel_rfl
theorem un95:(Tryz.prog).underlying 95=some (.slice 94):=by kernel_rfl
theorem z101:zeroCells Tryz.prog 101=some [.d (.str ⟨#[]⟩),.d (.int .i64 0),.d (.int .i64 0)]:=by kernel_rfl
theorem z164:zeroCells Tryz.prog 164=some [.d (.int .i64 0),.d (.int .i64 0)]:=by kernel_rfl
theorem z205:zeroCells Tryz.prog 205=some [.d (.int .i64 0),.d (.int .i64 0)]:=by kernel_rfl
theorem z22:zeroCells Tryz.prog 22=some [.nil]:=by kernel_rfl
theorem z3:zeroCells Tryz.prog 3=some [.d (.int .i64 0)]:=by kernel_rfl
theorem z30:zeroCells Tryz.prog 30=some [.d (.str ⟨#[]⟩),.d (.str ⟨#[]⟩),.d (.int .i64 0),.nil]:=by kernel_rfl
theorem z37:zeroCells Tryz.prog 37=some [.d (.str ⟨#[]⟩),.d (.str ⟨#[]⟩),.d (.int .i64 0),.d (.int .i64 0),.d (.int .i64 0),.d (.int .i64 0),.d (.int .i64 0),.nil,.d (.int .i64 0),.d (.int .i64 0),.d (.int .i64 0),.nil,.d (.bool false)]:=by kernel_rfl
theorem z46:zeroCells Tryz.prog 46=some [.d (.int .i64 0),.d (.int .i64 0)]:=by kernel_rfl
theorem z49:zeroCells Tryz.prog 49=some [.d (.int .i64 0),.d (.int .i64 0),.d (.str ⟨#[]⟩)]:=by kernel_rfl
theorem z76:zeroCells Tryz.prog 76=some [.d .nilp,.d (.int .i64 0),.d (.int .i64 0)]:=by kernel_rfl
theorem z84:zeroCells Tryz.prog 84=some [.d (.int .i64 0),.d (.int .i64 0),.d (.int .i64 0),.d (.int .i64 0)]:=by kernel_rfl
theorem z9:zeroCells Tryz.prog 9=some [.d (.str ⟨#[]⟩)]:=by kernel_rfl
theorem z91:zeroCells Tryz.prog 91=some [.d (.str ⟨#[]⟩),.d (.str ⟨#[]⟩),.d (.int .i64 0),.d (.int .i64 0),.nil,.d (.int .i64 0),.d (.int .i64 0),.d (.int .i64 0)]:=by kernel_rfl
theorem z94:zeroCells Tryz.prog 94=some [.d (.str ⟨#[]⟩),.d (.int .i64 0),.d (.int .i64 0)]:=by kernel_rfl
theorem z97:zeroCells Tryz.prog 97=some [.d (.str ⟨#[]⟩),.d (.str ⟨#[]⟩),.d (.int .i64 0),.nil,.d (.int .i64 0),.d (.int .i64 0),.d (.int .i64 0),.nil,.d (.str ⟨#[]⟩)]:=by kernel_rfl
theorem Mt : ∀ w, Go.Eng.LB w → Go.Lib.TabIs Go.Proofs.Tryz.prog w "internal/strconv.uint64pow10" .u64 Go.Lib.pow10Tab := fun _ h => h
end Go.Proofs.YtadpbmfnnlkdlabGreatDoor.Law

