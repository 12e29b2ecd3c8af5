/-
  Closed facts on the types and functions of the program.
-/
import Derived.Test.YtadpbmfnnlkdlacGreatDoorProg
import Derived.Test.YtadpbmfnnlkdlacGreatDoorEng5
open Go Go.Eng Go.Proofs
namespace Go.Proofs.YtadpbmfnnlkdlacGreatDoor.Law
set_option maxRecDepth 100000
set_option linter.unusedVariables false
set_option maxHeartbeats 1000000
theorem lb_ {a b:Nat} (h:Nat.ble a b=true):a<=b:=Nat.le_of_ble_eq_true h
abbrev SL_:=List (Nat×V)
theorem ag100:bW Tryz.prog 100=true:=by kernel_rfl
theorem Jd:bW Tryz.prog 114=true:=by kernel_rfl
theorem CL:bW Tryz.prog 116=true:=by kernel_rfl
theorem RN:bW Tryz.prog 119=true:=by kernel_rfl
theorem OQ:bW Tryz.prog 122=true:=by kernel_rfl
theorem Ac:bW Tryz.prog 199=true:=by kernel_rfl
theorem PP:bW Tryz.prog 22=false:=by kernel_rfl
theorem ag241:bW Tryz.prog 241=true:=by kernel_rfl
theorem ag26:bW Tryz.prog 26=false:=by kernel_rfl
theorem ag3:bW Tryz.prog 3=false:=by kernel_rfl
theorem ag30:bW Tryz.prog 30=false:=by kernel_rfl
theorem ag32:bW Tryz.prog 32=false:=by kernel_rfl
theorem Cy:bW Tryz.prog 36=false:=by kernel_rfl
theorem FE:bW Tryz.prog 37=false:=by kernel_rfl
theorem jZ:bW Tryz.prog 39=true:=by kernel_rfl
theorem ag4:bW Tryz.prog 4=false:=by kernel_rfl
theorem Ed:bW Tryz.prog 42=true:=by kernel_rfl
theorem AY:bW Tryz.prog 48=true:=by kernel_rfl
theorem ag54:bW Tryz.prog 54=true:=by kernel_rfl
theorem ag60:bW Tryz.prog 60=true:=by kernel_rfl
theorem Ii:bW Tryz.prog 65=true:=by kernel_rfl
theorem ag9:bW Tryz.prog 9=false:=by kernel_rfl
theorem by116:iw Tryz.prog 116=16:=by kernel_rfl
theorem Pf:iw Tryz.prog 199=16:=by kernel_rfl
theorem by241:iw Tryz.prog 241=16:=by kernel_rfl
theorem by3:iw Tryz.prog 3=8:=by kernel_rfl
theorem QQ:iw Tryz.prog 39=128:=by kernel_rfl
theorem Rk:iw Tryz.prog 42=32:=by kernel_rfl
theorem by48:iw Tryz.prog 48=48:=by kernel_rfl
theorem by54:iw Tryz.prog 54=48:=by kernel_rfl
theorem by60:iw Tryz.prog 60=32:=by kernel_rfl
theorem by65:iw Tryz.prog 65=32:=by kernel_rfl
theorem by9:iw Tryz.prog 9=16:=by kernel_rfl
theorem el110:bO Tryz.prog 110=some 116:=by kernel_rfl
theorem EO:bO Tryz.prog 194=some 199:=by kernel_rfl
theorem O8:bO Tryz.prog 207=some 241:=by kernel_rfl
theorem Sr:bO Tryz.prog 22=some 3:=by kernel_rfl
theorem Ik:bO Tryz.prog 26=some 39:=by kernel_rfl
theorem el28:bO Tryz.prog 28=some 65:=by kernel_rfl
theorem MQ:bO Tryz.prog 30=some 48:=by kernel_rfl
theorem Qd:bO Tryz.prog 36=some 9:=by kernel_rfl
theorem Ij:bO Tryz.prog 37=some 42:=by kernel_rfl
theorem el49:bO Tryz.prog 49=some 54:=by kernel_rfl
theorem el55:bO Tryz.prog 55=some 60:=by kernel_rfl
theorem QV:(bO Tryz.prog 110).bind (szT Tryz.prog)=some 2:=by kernel_rfl
theorem JQ:(bO Tryz.prog 123).bind (szT Tryz.prog)=some 3:=by kernel_rfl
theorem Tq:(bO Tryz.prog 132).bind (szT Tryz.prog)=some 1:=by kernel_rfl
theorem Rv:(bO Tryz.prog 139).bind (szT Tryz.prog)=some 1:=by kernel_rfl
theorem RD:(bO Tryz.prog 154).bind (szT Tryz.prog)=some 13:=by kernel_rfl
theorem Ty:(bO Tryz.prog 159).bind (szT Tryz.prog)=some 8:=by kernel_rfl
theorem es162:(bO Tryz.prog 162).bind (szT Tryz.prog)=some 1:=by kernel_rfl
theorem oJ:(bO Tryz.prog 194).bind (szT Tryz.prog)=some 2:=by kernel_rfl
theorem CB:(bO Tryz.prog 207).bind (szT Tryz.prog)=some 2:=by kernel_rfl
theorem nZ:(bO Tryz.prog 22).bind (szT Tryz.prog)=some 1:=by kernel_rfl
theorem Q8:(bO Tryz.prog 232).bind (szT Tryz.prog)=some 1:=by kernel_rfl
theorem mH:(bO Tryz.prog 26).bind (szT Tryz.prog)=some 9:=by kernel_rfl
theorem MU:(bO Tryz.prog 28).bind (szT Tryz.prog)=some 3:=by kernel_rfl
theorem Dw:(bO Tryz.prog 30).bind (szT Tryz.prog)=some 4:=by kernel_rfl
theorem qo:(bO Tryz.prog 36).bind (szT Tryz.prog)=some 1:=by kernel_rfl
theorem BC:(bO Tryz.prog 37).bind (szT Tryz.prog)=some 4:=by kernel_rfl
theorem es49:(bO Tryz.prog 49).bind (szT Tryz.prog)=some 4:=by kernel_rfl
theorem es55:(bO Tryz.prog 55).bind (szT Tryz.prog)=some 2:=by kernel_rfl
theorem es76:(bO Tryz.prog 76).bind (szT Tryz.prog)=some 1:=by kernel_rfl
theorem ez110:((bO Tryz.prog 110).bind (zeroCells Tryz.prog)).isSome=true:=by kernel_rfl
theorem ez123:((bO Tryz.prog 123).bind (zeroCells Tryz.prog)).isSome=true:=by kernel_rfl
theorem ez132:((bO Tryz.prog 132).bind (zeroCells Tryz.prog)).isSome=true:=by kernel_rfl
theorem ez139:((bO Tryz.prog 139).bind (zeroCells Tryz.prog)).isSome=true:=by kernel_rfl
theorem ez154:((bO Tryz.prog 154).bind (zeroCells Tryz.prog)).isSome=true:=by kernel_rfl
theorem ez159:((bO Tryz.prog 159).bind (zeroCells Tryz.prog)).isSome=true:=by kernel_rfl
theorem ez162:((bO Tryz.prog 162).bind (zeroCells Tryz.prog)).isSome=true:=by kernel_rfl
theorem OY:((bO Tryz.prog 194).bind (zeroCells Tryz.prog)).isSome=true:=by kernel_rfl
theorem ez207:((bO Tryz.prog 207).bind (zeroCells Tryz.prog)).isSome=true:=by kernel_rfl
theorem BI:((bO Tryz.prog 22).bind (zeroCells Tryz.prog)).isSome=true:=by kernel_rfl
theorem ez232:((bO Tryz.prog 232).bind (zeroCells Tryz.prog)).isSome=true:=by kernel_rfl
theorem Qv:((bO Tryz.prog 26).bind (zeroCells Tryz.prog)).isSome=true:=by kernel_rfl
theorem ez28:((bO Tryz.prog 28).bind (zeroCells Tryz.prog)).isSome=true:=by kernel_rfl
theorem ez30:((bO Tryz.prog 30).bind (zeroCells Tryz.prog)).isSome=true:=by kernel_rfl
theorem Cc:((bO Tryz.prog 36).bind (zeroCells Tryz.prog)).isSome=true:=by kernel_rfl
theorem Tm:((bO Tryz.prog 37).bind (zeroCells Tryz.prog)).isSome=true:=by kernel_rfl
theorem ez49:((bO Tryz.prog 49).bind (zeroCells Tryz.prog)).isSome=true:=by kernel_rfl
theorem ez55:((bO Tryz.prog 55).bind (zeroCells Tryz.prog)).isSome=true:=by kernel_rfl
theorem ez76:((bO Tryz.prog 76).bind (zeroCells Tryz.prog)).isSome=true:=by kernel_rfl
theorem hb10:aI Tryz.prog 10=true:=by kernel_rfl
theorem hb106:aI Tryz.prog 106=true:=by kernel_rfl
theorem hb107:aI Tryz.prog 107=true:=by kernel_rfl
theorem hb108:aI Tryz.prog 108=true:=by kernel_rfl
theorem hb109:aI Tryz.prog 109=true:=by kernel_rfl
theorem hb11:aI Tryz.prog 11=true:=by kernel_rfl
theorem hb118:aI Tryz.prog 118=true:=by kernel_rfl
theorem hb119:aI Tryz.prog 119=true:=by kernel_rfl
theorem hb12:aI Tryz.prog 12=true:=by kernel_rfl
theorem hb120:aI Tryz.prog 120=true:=by kernel_rfl
theorem hb121:aI Tryz.prog 121=true:=by kernel_rfl
theorem hb13:aI Tryz.prog 13=true:=by kernel_rfl
theorem hb131:aI Tryz.prog 131=true:=by kernel_rfl
theorem hb132:aI Tryz.prog 132=true:=by kernel_rfl
theorem hb133:aI Tryz.prog 133=true:=by kernel_rfl
theorem hb134:aI Tryz.prog 134=true:=by kernel_rfl
theorem hb135:aI Tryz.prog 135=true:=by kernel_rfl
theorem hb136:aI Tryz.prog 136=true:=by kernel_rfl
theorem hb137:aI Tryz.prog 137=true:=by kernel_rfl
theorem hb138:aI Tryz.prog 138=true:=by kernel_rfl
theorem hb139:aI Tryz.prog 139=true:=by kernel_rfl
theorem hb14:aI Tryz.prog 14=true:=by kernel_rfl
theorem hb140:aI Tryz.prog 140=true:=by kernel_rfl
theorem hb141:aI Tryz.prog 141=true:=by kernel_rfl
theorem hb142:aI Tryz.prog 142=true:=by kernel_rfl
theorem hb143:aI Tryz.prog 143=true:=by kernel_rfl
theorem hb144:aI Tryz.prog 144=true:=by kernel_rfl
theorem hb145:aI Tryz.prog 145=true:=by kernel_rfl
theorem hb146:aI Tryz.prog 146=true:=by kernel_rfl
theorem hb15:aI Tryz.prog 15=true:=by kernel_rfl
theorem hb152:aI Tryz.prog 152=true:=by kernel_rfl
theorem hb153:aI Tryz.prog 153=true:=by kernel_rfl
theorem hb154:aI Tryz.prog 154=true:=by kernel_rfl
theorem hb158:aI Tryz.prog 158=true:=by kernel_rfl
theorem hb16:aI Tryz.prog 16=true:=by kernel_rfl
theorem hb166:aI Tryz.prog 166=true:=by kernel_rfl
theorem hb168:aI Tryz.prog 168=true:=by kernel_rfl
theorem hb169:aI Tryz.prog 169=true:=by kernel_rfl
theorem hb17:aI Tryz.prog 17=true:=by kernel_rfl
theorem hb170:aI Tryz.prog 170=true:=by kernel_rfl
theorem hb171:aI Tryz.prog 171=true:=by kernel_rfl
theorem hb172:aI Tryz.prog 172=true:=by kernel_rfl
theorem hb173:aI Tryz.prog 173=true:=by kernel_rfl
theorem hb174:aI Tryz.prog 174=true:=by kernel_rfl
theorem hb177:aI Tryz.prog 177=true:=by kernel_rfl
theorem hb178:aI Tryz.prog 178=true:=by kernel_rfl
theorem hb18:aI Tryz.prog 18=true:=by kernel_rfl
theorem hb19:aI Tryz.prog 19=true:=by kernel_rfl
theorem hb196:aI Tryz.prog 196=true:=by kernel_rfl
theorem hb199:aI Tryz.prog 199=true:=by kernel_rfl
theorem hb20:aI Tryz.prog 20=true:=by kernel_rfl
theorem hb200:aI Tryz.prog 200=true:=by kernel_rfl
theorem hb201:aI Tryz.prog 201=true:=by kernel_rfl
theorem hb21:aI Tryz.prog 21=true:=by kernel_rfl
theorem hb216:aI Tryz.prog 216=true:=by kernel_rfl
theorem Gs:aI Tryz.prog 22=true:=by kernel_rfl
theorem Sg:aI Tryz.prog 23=true:=by kernel_rfl
theorem hb24:aI Tryz.prog 24=true:=by kernel_rfl
theorem Q6:aI Tryz.prog 25=true:=by kernel_rfl
theorem hb26:aI Tryz.prog 26=true:=by kernel_rfl
theorem hb27:aI Tryz.prog 27=true:=by kernel_rfl
theorem hb28:aI Tryz.prog 28=true:=by kernel_rfl
theorem QZ:aI Tryz.prog 29=true:=by kernel_rfl
theorem hb30:aI Tryz.prog 30=true:=by kernel_rfl
theorem hb31:aI Tryz.prog 31=true:=by kernel_rfl
theorem hb32:aI Tryz.prog 32=true:=by kernel_rfl
theorem hb33:aI Tryz.prog 33=true:=by kernel_rfl
theorem hb34:aI Tryz.prog 34=true:=by kernel_rfl
theorem hb35:aI Tryz.prog 35=true:=by kernel_rfl
theorem hb36:aI Tryz.prog 36=true:=by kernel_rfl
theorem hb37:aI Tryz.prog 37=true:=by kernel_rfl
theorem hb38:aI Tryz.prog 38=true:=by kernel_rfl
theorem hb39:aI Tryz.prog 39=true:=by kernel_rfl
theorem hb4:aI Tryz.prog 4=true:=by kernel_rfl
theorem Np:aI Tryz.prog 40=true:=by kernel_rfl
theorem hb41:aI Tryz.prog 41=true:=by kernel_rfl
theorem Oa:aI Tryz.prog 42=true:=by kernel_rfl
theorem hb43:aI Tryz.prog 43=true:=by kernel_rfl
theorem hb44:aI Tryz.prog 44=true:=by kernel_rfl
theorem hb45:aI Tryz.prog 45=true:=by kernel_rfl
theorem uO:aI Tryz.prog 46=true:=by kernel_rfl
theorem IV:aI Tryz.prog 47=true:=by kernel_rfl
theorem hb48:aI Tryz.prog 48=true:=by kernel_rfl
theorem hb49:aI Tryz.prog 49=true:=by kernel_rfl
theorem hb5:aI Tryz.prog 5=true:=by kernel_rfl
theorem hb50:aI Tryz.prog 50=true:=by kernel_rfl
theorem hb51:aI Tryz.prog 51=true:=by kernel_rfl
theorem hb52:aI Tryz.prog 52=true:=by kernel_rfl
theorem LJ:aI Tryz.prog 53=true:=by kernel_rfl
theorem hb54:aI Tryz.prog 54=true:=by kernel_rfl
theorem hb55:aI Tryz.prog 55=true:=by kernel_rfl
theorem hb56:aI Tryz.prog 56=true:=by kernel_rfl
theorem hb57:aI Tryz.prog 57=true:=by kernel_rfl
theorem hb58:aI Tryz.prog 58=true:=by kernel_rfl
theorem hb59:aI Tryz.prog 59=true:=by kernel_rfl
theorem hb6:aI Tryz.prog 6=true:=by kernel_rfl
theorem hb60:aI Tryz.prog 60=true:=by kernel_rfl
theorem hb61:aI Tryz.prog 61=true:=by kernel_rfl
theorem hb62:aI Tryz.prog 62=true:=by kernel_rfl
theorem hb63:aI Tryz.prog 63=true:=by kernel_rfl
theorem hb64:aI Tryz.prog 64=true:=by kernel_rfl
theorem hb65:aI Tryz.prog 65=true:=by kernel_rfl
theorem hb66:aI Tryz.prog 66=true:=by kernel_rfl
theorem hb67:aI Tryz.prog 67=true:=by kernel_rfl
theorem hb68:aI Tryz.prog 68=true:=by kernel_rfl
theorem hb69:aI Tryz.prog 69=true:=by kernel_rfl
theorem hb7:aI Tryz.prog 7=true:=by kernel_rfl
theorem hb70:aI Tryz.prog 70=true:=by kernel_rfl
theorem hb71:aI Tryz.prog 71=true:=by kernel_rfl
theorem hb72:aI Tryz.prog 72=true:=by kernel_rfl
theorem DY:aI Tryz.prog 73=true:=by kernel_rfl
theorem hb74:aI Tryz.prog 74=true:=by kernel_rfl
theorem hb76:aI Tryz.prog 76=true:=by kernel_rfl
theorem hb77:aI Tryz.prog 77=true:=by kernel_rfl
theorem hb78:aI Tryz.prog 78=true:=by kernel_rfl
theorem hb79:aI Tryz.prog 79=true:=by kernel_rfl
theorem hb8:aI Tryz.prog 8=true:=by kernel_rfl
theorem hb81:aI Tryz.prog 81=true:=by kernel_rfl
theorem hb82:aI Tryz.prog 82=true:=by kernel_rfl
theorem hb83:aI Tryz.prog 83=true:=by kernel_rfl
theorem hb84:aI Tryz.prog 84=true:=by kernel_rfl
theorem hb85:aI Tryz.prog 85=true:=by kernel_rfl
theorem hb86:aI Tryz.prog 86=true:=by kernel_rfl
theorem hb87:aI Tryz.prog 87=true:=by kernel_rfl
theorem hb88:aI Tryz.prog 88=true:=by kernel_rfl
theorem hb89:aI Tryz.prog 89=true:=by kernel_rfl
theorem hb9:aI Tryz.prog 9=true:=by kernel_rfl
theorem hb90:aI Tryz.prog 90=true:=by kernel_rfl
theorem hb91:aI Tryz.prog 91=true:=by kernel_rfl
theorem hb92:aI Tryz.prog 92=true:=by kernel_rfl
theorem hb93:aI Tryz.prog 93=true:=by kernel_rfl
theorem hb94:aI Tryz.prog 94=true:=by kernel_rfl
theorem hb95:aI Tryz.prog 95=true:=by kernel_rfl
theorem hb96:aI Tryz.prog 96=true:=by kernel_rfl
theorem hb97:aI Tryz.prog 97=true:=by kernel_rfl
theorem mt131:D5 Tryz.prog 131=some (9,4):=by kernel_rfl
theorem mt81:D5 Tryz.prog 81=some (9,39):=by kernel_rfl
theorem mt94:D5 Tryz.prog 94=some (100,3):=by kernel_rfl
theorem nb130:aI Tryz.prog 130=false:=by kernel_rfl
theorem Kv:bS Tryz.prog 114 0=some (0,1):=by kernel_rfl
theorem pl114_1:bS Tryz.prog 114 1=some (1,1):=by kernel_rfl
theorem SF:bS Tryz.prog 114 10=some (10,1):=by kernel_rfl
theorem Tk:bS Tryz.prog 114 11=some (11,1):=by kernel_rfl
theorem RP:bS Tryz.prog 114 12=some (12,1):=by kernel_rfl
theorem pl114_2:bS Tryz.prog 114 2=some (2,1):=by kernel_rfl
theorem FV:bS Tryz.prog 114 3=some (3,1):=by kernel_rfl
theorem FX:bS Tryz.prog 114 4=some (4,1):=by kernel_rfl
theorem Pd:bS Tryz.prog 114 5=some (5,1):=by kernel_rfl
theorem O4:bS Tryz.prog 114 6=some (6,1):=by kernel_rfl
theorem OX:bS Tryz.prog 114 7=some (7,1):=by kernel_rfl
theorem Kr:bS Tryz.prog 114 8=some (8,1):=by kernel_rfl
theorem O1:bS Tryz.prog 114 9=some (9,1):=by kernel_rfl
theorem oU:bS Tryz.prog 116 0=some (0,1):=by kernel_rfl
theorem pg:bS Tryz.prog 116 1=some (1,1):=by kernel_rfl
theorem KZ:bS Tryz.prog 119 0=some (0,1):=by kernel_rfl
theorem OD:bS Tryz.prog 119 1=some (1,1):=by kernel_rfl
theorem Ap:bS Tryz.prog 119 2=some (2,2):=by kernel_rfl
theorem pl119_3:bS Tryz.prog 119 3=some (4,1):=by kernel_rfl
theorem KL:bS Tryz.prog 119 4=some (5,1):=by kernel_rfl
theorem pl119_5:bS Tryz.prog 119 5=some (6,1):=by kernel_rfl
theorem pl119_6:bS Tryz.prog 119 6=some (7,1):=by kernel_rfl
theorem AL:bS Tryz.prog 122 0=some (0,1):=by kernel_rfl
theorem Dl:bS Tryz.prog 122 1=some (1,1):=by kernel_rfl
theorem CU:bS Tryz.prog 122 2=some (2,1):=by kernel_rfl
theorem nT:bS Tryz.prog 199 0=some (0,1):=by kernel_rfl
theorem uR:bS Tryz.prog 199 1=some (1,1):=by kernel_rfl
theorem wR:bS Tryz.prog 241 0=some (0,1):=by kernel_rfl
theorem yU:bS Tryz.prog 241 1=some (1,1):=by kernel_rfl
theorem KJ:bS Tryz.prog 25 0=some (0,1):=by kernel_rfl
theorem IB:bS Tryz.prog 25 1=some (1,1):=by kernel_rfl
theorem kZ:bS Tryz.prog 39 0=some (0,1):=by kernel_rfl
theorem Ez:bS Tryz.prog 39 1=some (1,1):=by kernel_rfl
theorem xk:bS Tryz.prog 39 2=some (2,1):=by kernel_rfl
theorem qx:bS Tryz.prog 39 3=some (3,1):=by kernel_rfl
theorem lg:bS Tryz.prog 39 4=some (4,1):=by kernel_rfl
theorem DC:bS Tryz.prog 39 5=some (5,1):=by kernel_rfl
theorem DU:bS Tryz.prog 39 6=some (6,1):=by kernel_rfl
theorem ul:bS Tryz.prog 39 7=some (7,1):=by kernel_rfl
theorem Am:bS Tryz.prog 39 8=some (8,1):=by kernel_rfl
theorem BJ:bS Tryz.prog 42 0=some (0,1):=by kernel_rfl
theorem yT:bS Tryz.prog 42 1=some (1,1):=by kernel_rfl
theorem F6:bS Tryz.prog 42 2=some (2,1):=by kernel_rfl
theorem DK:bS Tryz.prog 42 3=some (3,1):=by kernel_rfl
theorem EG:bS Tryz.prog 48 0=some (0,1):=by kernel_rfl
theorem Es:bS Tryz.prog 48 1=some (1,1):=by kernel_rfl
theorem BF:bS Tryz.prog 48 2=some (2,1):=by kernel_rfl
theorem Ru:bS Tryz.prog 48 3=some (3,1):=by kernel_rfl
theorem Q4:bS Tryz.prog 54 0=some (0,1):=by kernel_rfl
theorem Su:bS Tryz.prog 54 1=some (1,1):=by kernel_rfl
theorem Cj:bS Tryz.prog 65 0=some (0,1):=by kernel_rfl
theorem NM:bS Tryz.prog 65 1=some (1,1):=by kernel_rfl
theorem Oo:bS Tryz.prog 65 2=some (2,1):=by kernel_rfl
theorem R3:szT Tryz.prog 100=some 2:=by kernel_rfl
theorem HV:szT Tryz.prog 114=some 13:=by kernel_rfl
theorem vH:szT Tryz.prog 116=some 2:=by kernel_rfl
theorem Px:szT Tryz.prog 119=some 8:=by kernel_rfl
theorem Jh:szT Tryz.prog 122=some 3:=by kernel_rfl
theorem qL:szT Tryz.prog 199=some 2:=by kernel_rfl
theorem P5:szT Tryz.prog 22=some 1:=by kernel_rfl
theorem JD:szT Tryz.prog 241=some 2:=by kernel_rfl
theorem sz26:szT Tryz.prog 26=some 1:=by kernel_rfl
theorem sz3:szT Tryz.prog 3=some 1:=by kernel_rfl
theorem sz30:szT Tryz.prog 30=some 1:=by kernel_rfl
theorem sz32:szT Tryz.prog 32=some 1:=by kernel_rfl
theorem zV:szT Tryz.prog 36=some 1:=by kernel_rfl
theorem CQ:szT Tryz.prog 37=some 1:=by kernel_rfl
theorem fJ:szT Tryz.prog 39=some 9:=by kernel_rfl
theorem sz4:szT Tryz.prog 4=some 1:=by kernel_rfl
theorem rV:szT Tryz.prog 42=some 4:=by kernel_rfl
theorem rP:szT Tryz.prog 48=some 4:=by kernel_rfl
theorem sz54:szT Tryz.prog 54=some 4:=by kernel_rfl
theorem sz60:szT Tryz.prog 60=some 2:=by kernel_rfl
theorem BZ:szT Tryz.prog 65=some 3:=by kernel_rfl
theorem sz9:szT Tryz.prog 9=some 1:=by kernel_rfl
theorem un110:(Tryz.prog).underlying 110=some (.slice 116):=by kernel_rfl
theorem RB:(Tryz.prog).underlying 123=some (.slice 122):=by kernel_rfl
theorem JO:(Tryz.prog).underlying 129=some (.int .u64):=by kernel_rfl
theorem un132:(Tryz.prog).underlying 132=some (.slice 26):=by kernel_rfl
theorem un139:(Tryz.prog).underlying 139=some (.slice 30):=by kernel_rfl
theorem un154:(Tryz.prog).underlying 154=some (.slice 114):=by kernel_rfl
theorem un159:(Tryz.prog).underlying 159=some (.slice 119):=by kernel_rfl
theorem un162:(Tryz.prog).underlying 162=some (.slice 32):=by kernel_rfl
theorem un173:(Tryz.prog).underlying 173=some (.int .u64):=by kernel_rfl
theorem Bu:(Tryz.prog).underlying 194=some (.slice 199):=by kernel_rfl
theorem Rq:(Tryz.prog).underlying 207=some (.slice 241):=by kernel_rfl
theorem zL:(Tryz.prog).underlying 22=some (.slice 3):=by kernel_rfl
theorem un232:(Tryz.prog).underlying 232=some (.slice 37):=by kernel_rfl
theorem uS:(Tryz.prog).underlying 26=some (.slice 39):=by kernel_rfl
theorem Nw:(Tryz.prog).underlying 28=some (.slice 65):=by kernel_rfl
theorem un3:(Tryz.prog).underlying 3=some (.int .i64):=by kernel_rfl
theorem xG:(Tryz.prog).underlying 30=some (.slice 48):=by kernel_rfl
theorem wY:(Tryz.prog).underlying 36=some (.slice 9):=by kernel_rfl
theorem yP:(Tryz.prog).underlying 37=some (.slice 42):=by kernel_rfl
theorem un4:(Tryz.prog).underlying 4=some .bool:=by kernel_rfl
theorem un49:(Tryz.prog).underlying 49=some (.slice 54):=by kernel_rfl
theorem un5:(Tryz.prog).underlying 5=some (.int .u8):=by kernel_rfl
theorem un55:(Tryz.prog).underlying 55=some (.slice 60):=by kernel_rfl
theorem un76:(Tryz.prog).underlying 76=some (.slice 4):=by kernel_rfl
theorem un79:(Tryz.prog).underlying 79=some (.array 2 26):=by kernel_rfl
theorem un85:(Tryz.prog).underlying 85=some (.array 2 30):=by kernel_rfl
theorem un9:(Tryz.prog).underlying 9=some .string:=by kernel_rfl
theorem z100:zeroCells Tryz.prog 100=some [.d (.str ⟨#[]⟩),.d (.str ⟨#[]⟩)]:=by kernel_rfl
theorem z114:zeroCells Tryz.prog 114=some [.d (.str ⟨#[]⟩),.d (.str ⟨#[]⟩),.d (.int .i64 0),.d (.int .i64 0),.d (.int .i64 0),.d (.int .i64 0),.d (.int .i64 0),.nil,.d (.int .i64 0),.d (.int .i64 0),.d (.int .i64 0),.nil,.d (.bool false)]:=by kernel_rfl
theorem z116:zeroCells Tryz.prog 116=some [.d (.int .i64 0),.d (.int .i64 0)]:=by kernel_rfl
theorem z119:zeroCells Tryz.prog 119=some [.d (.str ⟨#[]⟩),.d (.str ⟨#[]⟩),.d (.int .i64 0),.d (.int .i64 0),.nil,.d (.int .i64 0),.d (.int .i64 0),.d (.int .i64 0)]:=by kernel_rfl
theorem z122:zeroCells Tryz.prog 122=some [.d (.str ⟨#[]⟩),.d (.int .i64 0),.d (.int .i64 0)]:=by kernel_rfl
theorem Oc:zeroCells Tryz.prog 199=some [.d (.int .i64 0),.d (.int .i64 0)]:=by kernel_rfl
theorem z241:zeroCells Tryz.prog 241=some [.d (.int .i64 0),.d (.int .i64 0)]:=by kernel_rfl
theorem z3:zeroCells Tryz.prog 3=some [.d (.int .i64 0)]:=by kernel_rfl
theorem z39:zeroCells Tryz.prog 39=some [.d (.str ⟨#[]⟩),.d (.str ⟨#[]⟩),.d (.int .i64 0),.nil,.d (.int .i64 0),.d (.int .i64 0),.d (.int .i64 0),.nil,.d (.str ⟨#[]⟩)]:=by kernel_rfl
theorem z42:zeroCells Tryz.prog 42=some [.d (.int .i64 0),.d (.int .i64 0),.d (.int .i64 0),.d (.int .i64 0)]:=by kernel_rfl
theorem z48:zeroCells Tryz.prog 48=some [.d (.str ⟨#[]⟩),.d (.str ⟨#[]⟩),.d (.int .i64 0),.d (.bool false)]:=by kernel_rfl
theorem z54:zeroCells Tryz.prog 54=some [.d (.str ⟨#[]⟩),.d (.str ⟨#[]⟩),.d (.int .i64 0),.d (.int .i64 0)]:=by kernel_rfl
theorem z60:zeroCells Tryz.prog 60=some [.d (.str ⟨#[]⟩),.d (.str ⟨#[]⟩)]:=by kernel_rfl
theorem z65:zeroCells Tryz.prog 65=some [.d (.str ⟨#[]⟩),.d (.int .i64 0),.d (.int .i64 0)]:=by kernel_rfl
theorem z9:zeroCells Tryz.prog 9=some [.d (.str ⟨#[]⟩)]:=by kernel_rfl
theorem NK : ∀ w, Go.Eng.Bl w → Go.Lib.TabIs Go.Proofs.Tryz.prog w "internal/strconv.uint64pow10" .u64 Go.Lib.pow10Tab := fun _ h => h.1
theorem LP:∀w,Go.Eng.Bl w->(∃m,w.cell? ⟨0,0,none⟩=some (.int .i64 m)):=λ_ h=>h.2.1
theorem QJ:∀w,Go.Eng.Bl w->Go.Lib.Utf8Tabs 1 2 w:=λ_ h=>h.2.2
end Go.Proofs.YtadpbmfnnlkdlacGreatDoor.Law

