/-
  Closed facts on the types and functions of the program.
-/
import Derived.Test.YtnfojnnfidnikaeGreatDoorProg
import Derived.Test.YtnfojnnfidnikaeGreatDoorEng5
open Go Go.Eng Go.Proofs
namespace Go.Proofs.YtnfojnnfidnikaeGreatDoor.Law
set_option maxRecDepth 100000
set_option linter.unusedVariables false
set_option maxHeartbeats 1000000
theorem ab238:BP Tryz.prog 238=some 24:=by kernel_rfl
theorem E9:BP Tryz.prog 267=some 65:=by kernel_rfl
theorem Fz:bU Tryz.prog 106=true:=by kernel_rfl
theorem Jv:bU Tryz.prog 107=false:=by kernel_rfl
theorem JX:bU Tryz.prog 112=true:=by kernel_rfl
theorem DZ:bU Tryz.prog 114=true:=by kernel_rfl
theorem UH:bU Tryz.prog 117=true:=by kernel_rfl
theorem Dp:bU Tryz.prog 120=true:=by kernel_rfl
theorem Ug:bU Tryz.prog 123=true:=by kernel_rfl
theorem lb_ {a b:Nat} (h:Nat.ble a b=true):a<=b:=Nat.le_of_ble_eq_true h
abbrev SL_:=List (Nat×V)
theorem ag168:bU Tryz.prog 168=true:=by kernel_rfl
theorem AJ:bU Tryz.prog 210=true:=by kernel_rfl
theorem QI:bU Tryz.prog 22=false:=by kernel_rfl
theorem ag26:bU Tryz.prog 26=false:=by kernel_rfl
theorem ag3:bU Tryz.prog 3=false:=by kernel_rfl
theorem ag30:bU Tryz.prog 30=false:=by kernel_rfl
theorem ag32:bU Tryz.prog 32=false:=by kernel_rfl
theorem rQ:bU Tryz.prog 37=true:=by kernel_rfl
theorem ag4:bU Tryz.prog 4=false:=by kernel_rfl
theorem Jk:bU Tryz.prog 42=true:=by kernel_rfl
theorem GV:bU Tryz.prog 48=true:=by kernel_rfl
theorem ag5:bU Tryz.prog 5=false:=by kernel_rfl
theorem ag54:bU Tryz.prog 54=true:=by kernel_rfl
theorem QK:bU Tryz.prog 55=false:=by kernel_rfl
theorem Q9:bU Tryz.prog 66=true:=by kernel_rfl
theorem Ue:bU Tryz.prog 87=true:=by kernel_rfl
theorem ag9:bU Tryz.prog 9=false:=by kernel_rfl
theorem UI:fI Tryz.prog 106=32:=by kernel_rfl
theorem by114:fI Tryz.prog 114=16:=by kernel_rfl
theorem by168:fI Tryz.prog 168=16:=by kernel_rfl
theorem Qp:fI Tryz.prog 210=16:=by kernel_rfl
theorem by3:fI Tryz.prog 3=8:=by kernel_rfl
theorem by37:fI Tryz.prog 37=72:=by kernel_rfl
theorem by4:fI Tryz.prog 4=1:=by kernel_rfl
theorem by42:fI Tryz.prog 42=48:=by kernel_rfl
theorem by48:fI Tryz.prog 48=56:=by kernel_rfl
theorem by54:fI Tryz.prog 54=16:=by kernel_rfl
theorem by66:fI Tryz.prog 66=32:=by kernel_rfl
theorem by87:fI Tryz.prog 87=16:=by kernel_rfl
theorem by9:fI Tryz.prog 9=16:=by kernel_rfl
theorem IL:bG Tryz.prog 107=some 106:=by kernel_rfl
theorem el108:bG Tryz.prog 108=some 114:=by kernel_rfl
theorem Pk:bG Tryz.prog 132=some 168:=by kernel_rfl
theorem Fh:bG Tryz.prog 205=some 210:=by kernel_rfl
theorem Hy:bG Tryz.prog 22=some 3:=by kernel_rfl
theorem MC:bG Tryz.prog 26=some 37:=by kernel_rfl
theorem el28:bG Tryz.prog 28=some 66:=by kernel_rfl
theorem el30:bG Tryz.prog 30=some 42:=by kernel_rfl
theorem el43:bG Tryz.prog 43=some 48:=by kernel_rfl
theorem el49:bG Tryz.prog 49=some 54:=by kernel_rfl
theorem FN:bG Tryz.prog 55=some 9:=by kernel_rfl
theorem el83:bG Tryz.prog 83=some 87:=by kernel_rfl
theorem el97:bG Tryz.prog 97=some 4:=by kernel_rfl
theorem DR:(bG Tryz.prog 107).bind (szT Tryz.prog)=some 4:=by kernel_rfl
theorem TA:(bG Tryz.prog 108).bind (szT Tryz.prog)=some 2:=by kernel_rfl
theorem TC:(bG Tryz.prog 128).bind (szT Tryz.prog)=some 1:=by kernel_rfl
theorem De:(bG Tryz.prog 132).bind (szT Tryz.prog)=some 2:=by kernel_rfl
theorem TV:(bG Tryz.prog 150).bind (szT Tryz.prog)=some 13:=by kernel_rfl
theorem RN:(bG Tryz.prog 155).bind (szT Tryz.prog)=some 8:=by kernel_rfl
theorem Qc:(bG Tryz.prog 159).bind (szT Tryz.prog)=some 9:=by kernel_rfl
theorem TB:(bG Tryz.prog 160).bind (szT Tryz.prog)=some 3:=by kernel_rfl
theorem es162:(bG Tryz.prog 162).bind (szT Tryz.prog)=some 1:=by kernel_rfl
theorem es163:(bG Tryz.prog 163).bind (szT Tryz.prog)=some 1:=by kernel_rfl
theorem oV:(bG Tryz.prog 205).bind (szT Tryz.prog)=some 2:=by kernel_rfl
theorem pQ:(bG Tryz.prog 22).bind (szT Tryz.prog)=some 1:=by kernel_rfl
theorem Sa:(bG Tryz.prog 247).bind (szT Tryz.prog)=some 1:=by kernel_rfl
theorem sG:(bG Tryz.prog 26).bind (szT Tryz.prog)=some 6:=by kernel_rfl
theorem K3:(bG Tryz.prog 28).bind (szT Tryz.prog)=some 3:=by kernel_rfl
theorem IM:(bG Tryz.prog 30).bind (szT Tryz.prog)=some 4:=by kernel_rfl
theorem Ms:(bG Tryz.prog 43).bind (szT Tryz.prog)=some 5:=by kernel_rfl
theorem es49:(bG Tryz.prog 49).bind (szT Tryz.prog)=some 2:=by kernel_rfl
theorem rF:(bG Tryz.prog 55).bind (szT Tryz.prog)=some 1:=by kernel_rfl
theorem KZ:(bG Tryz.prog 83).bind (szT Tryz.prog)=some 2:=by kernel_rfl
theorem es97:(bG Tryz.prog 97).bind (szT Tryz.prog)=some 1:=by kernel_rfl
theorem Sj:((bG Tryz.prog 107).bind (zeroCells Tryz.prog)).isSome=true:=by kernel_rfl
theorem ez108:((bG Tryz.prog 108).bind (zeroCells Tryz.prog)).isSome=true:=by kernel_rfl
theorem ez128:((bG Tryz.prog 128).bind (zeroCells Tryz.prog)).isSome=true:=by kernel_rfl
theorem ez132:((bG Tryz.prog 132).bind (zeroCells Tryz.prog)).isSome=true:=by kernel_rfl
theorem ez150:((bG Tryz.prog 150).bind (zeroCells Tryz.prog)).isSome=true:=by kernel_rfl
theorem ez155:((bG Tryz.prog 155).bind (zeroCells Tryz.prog)).isSome=true:=by kernel_rfl
theorem ez159:((bG Tryz.prog 159).bind (zeroCells Tryz.prog)).isSome=true:=by kernel_rfl
theorem ez160:((bG Tryz.prog 160).bind (zeroCells Tryz.prog)).isSome=true:=by kernel_rfl
theorem ez162:((bG Tryz.prog 162).bind (zeroCells Tryz.prog)).isSome=true:=by kernel_rfl
theorem Qa:((bG Tryz.prog 205).bind (zeroCells Tryz.prog)).isSome=true:=by kernel_rfl
theorem zP:((bG Tryz.prog 22).bind (zeroCells Tryz.prog)).isSome=true:=by kernel_rfl
theorem ez247:((bG Tryz.prog 247).bind (zeroCells Tryz.prog)).isSome=true:=by kernel_rfl
theorem ez26:((bG Tryz.prog 26).bind (zeroCells Tryz.prog)).isSome=true:=by kernel_rfl
theorem ez28:((bG Tryz.prog 28).bind (zeroCells Tryz.prog)).isSome=true:=by kernel_rfl
theorem ez30:((bG Tryz.prog 30).bind (zeroCells Tryz.prog)).isSome=true:=by kernel_rfl
theorem ez43:((bG Tryz.prog 43).bind (zeroCells Tryz.prog)).isSome=true:=by kernel_rfl
theorem ez49:((bG Tryz.prog 49).bind (zeroCells Tryz.prog)).isSome=true:=by kernel_rfl
theorem IP:((bG Tryz.prog 55).bind (zeroCells Tryz.prog)).isSome=true:=by kernel_rfl
theorem ez83:((bG Tryz.prog 83).bind (zeroCells Tryz.prog)).isSome=true:=by kernel_rfl
theorem hb10:aJ Tryz.prog 10=true:=by kernel_rfl
theorem hb100:aJ Tryz.prog 100=true:=by kernel_rfl
theorem hb107:aJ Tryz.prog 107=true:=by kernel_rfl
theorem hb11:aJ Tryz.prog 11=true:=by kernel_rfl
theorem hb111:aJ Tryz.prog 111=true:=by kernel_rfl
theorem hb112:aJ Tryz.prog 112=true:=by kernel_rfl
theorem hb12:aJ Tryz.prog 12=true:=by kernel_rfl
theorem hb121:aJ Tryz.prog 121=true:=by kernel_rfl
theorem hb128:aJ Tryz.prog 128=true:=by kernel_rfl
theorem PP:aJ Tryz.prog 129=true:=by kernel_rfl
theorem hb13:aJ Tryz.prog 13=true:=by kernel_rfl
theorem hb130:aJ Tryz.prog 130=true:=by kernel_rfl
theorem hb131:aJ Tryz.prog 131=true:=by kernel_rfl
theorem hb132:aJ Tryz.prog 132=true:=by kernel_rfl
theorem hb133:aJ Tryz.prog 133=true:=by kernel_rfl
theorem hb134:aJ Tryz.prog 134=true:=by kernel_rfl
theorem hb135:aJ Tryz.prog 135=true:=by kernel_rfl
theorem hb136:aJ Tryz.prog 136=true:=by kernel_rfl
theorem hb137:aJ Tryz.prog 137=true:=by kernel_rfl
theorem hb138:aJ Tryz.prog 138=true:=by kernel_rfl
theorem hb139:aJ Tryz.prog 139=true:=by kernel_rfl
theorem hb14:aJ Tryz.prog 14=true:=by kernel_rfl
theorem hb140:aJ Tryz.prog 140=true:=by kernel_rfl
theorem hb141:aJ Tryz.prog 141=true:=by kernel_rfl
theorem hb142:aJ Tryz.prog 142=true:=by kernel_rfl
theorem hb143:aJ Tryz.prog 143=true:=by kernel_rfl
theorem hb144:aJ Tryz.prog 144=true:=by kernel_rfl
theorem hb145:aJ Tryz.prog 145=true:=by kernel_rfl
theorem hb15:aJ Tryz.prog 15=true:=by kernel_rfl
theorem hb154:aJ Tryz.prog 154=true:=by kernel_rfl
theorem hb16:aJ Tryz.prog 16=true:=by kernel_rfl
theorem hb167:aJ Tryz.prog 167=true:=by kernel_rfl
theorem hb17:aJ Tryz.prog 17=true:=by kernel_rfl
theorem hb174:aJ Tryz.prog 174=true:=by kernel_rfl
theorem hb175:aJ Tryz.prog 175=true:=by kernel_rfl
theorem hb176:aJ Tryz.prog 176=true:=by kernel_rfl
theorem hb177:aJ Tryz.prog 177=true:=by kernel_rfl
theorem hb178:aJ Tryz.prog 178=true:=by kernel_rfl
theorem hb179:aJ Tryz.prog 179=true:=by kernel_rfl
theorem hb18:aJ Tryz.prog 18=true:=by kernel_rfl
theorem hb180:aJ Tryz.prog 180=true:=by kernel_rfl
theorem hb181:aJ Tryz.prog 181=true:=by kernel_rfl
theorem hb182:aJ Tryz.prog 182=true:=by kernel_rfl
theorem hb183:aJ Tryz.prog 183=true:=by kernel_rfl
theorem hb19:aJ Tryz.prog 19=true:=by kernel_rfl
theorem hb194:aJ Tryz.prog 194=true:=by kernel_rfl
theorem hb195:aJ Tryz.prog 195=true:=by kernel_rfl
theorem hb199:aJ Tryz.prog 199=true:=by kernel_rfl
theorem hb20:aJ Tryz.prog 20=true:=by kernel_rfl
theorem hb200:aJ Tryz.prog 200=true:=by kernel_rfl
theorem hb201:aJ Tryz.prog 201=true:=by kernel_rfl
theorem hb202:aJ Tryz.prog 202=true:=by kernel_rfl
theorem hb203:aJ Tryz.prog 203=true:=by kernel_rfl
theorem hb21:aJ Tryz.prog 21=true:=by kernel_rfl
theorem hb210:aJ Tryz.prog 210=true:=by kernel_rfl
theorem hb218:aJ Tryz.prog 218=true:=by kernel_rfl
theorem hb219:aJ Tryz.prog 219=true:=by kernel_rfl
theorem hb22:aJ Tryz.prog 22=true:=by kernel_rfl
theorem hb23:aJ Tryz.prog 23=true:=by kernel_rfl
theorem Mm:aJ Tryz.prog 24=true:=by kernel_rfl
theorem Te:aJ Tryz.prog 25=true:=by kernel_rfl
theorem hb26:aJ Tryz.prog 26=true:=by kernel_rfl
theorem hb27:aJ Tryz.prog 27=true:=by kernel_rfl
theorem hb28:aJ Tryz.prog 28=true:=by kernel_rfl
theorem hb29:aJ Tryz.prog 29=true:=by kernel_rfl
theorem hb30:aJ Tryz.prog 30=true:=by kernel_rfl
theorem hb31:aJ Tryz.prog 31=true:=by kernel_rfl
theorem hb32:aJ Tryz.prog 32=true:=by kernel_rfl
theorem hb33:aJ Tryz.prog 33=true:=by kernel_rfl
theorem hb34:aJ Tryz.prog 34=true:=by kernel_rfl
theorem hb35:aJ Tryz.prog 35=true:=by kernel_rfl
theorem KV:aJ Tryz.prog 36=true:=by kernel_rfl
theorem hb37:aJ Tryz.prog 37=true:=by kernel_rfl
theorem hb38:aJ Tryz.prog 38=true:=by kernel_rfl
theorem qc:aJ Tryz.prog 39=true:=by kernel_rfl
theorem hb4:aJ Tryz.prog 4=true:=by kernel_rfl
theorem hb40:aJ Tryz.prog 40=true:=by kernel_rfl
theorem hb41:aJ Tryz.prog 41=true:=by kernel_rfl
theorem hb42:aJ Tryz.prog 42=true:=by kernel_rfl
theorem TE:aJ Tryz.prog 43=true:=by kernel_rfl
theorem Rm:aJ Tryz.prog 44=true:=by kernel_rfl
theorem Ri:aJ Tryz.prog 45=true:=by kernel_rfl
theorem hb46:aJ Tryz.prog 46=true:=by kernel_rfl
theorem hb47:aJ Tryz.prog 47=true:=by kernel_rfl
theorem hb48:aJ Tryz.prog 48=true:=by kernel_rfl
theorem hb49:aJ Tryz.prog 49=true:=by kernel_rfl
theorem hb5:aJ Tryz.prog 5=true:=by kernel_rfl
theorem hb50:aJ Tryz.prog 50=true:=by kernel_rfl
theorem hb51:aJ Tryz.prog 51=true:=by kernel_rfl
theorem hb52:aJ Tryz.prog 52=true:=by kernel_rfl
theorem hb53:aJ Tryz.prog 53=true:=by kernel_rfl
theorem hb54:aJ Tryz.prog 54=true:=by kernel_rfl
theorem hb55:aJ Tryz.prog 55=true:=by kernel_rfl
theorem hb56:aJ Tryz.prog 56=true:=by kernel_rfl
theorem hb57:aJ Tryz.prog 57=true:=by kernel_rfl
theorem hb58:aJ Tryz.prog 58=true:=by kernel_rfl
theorem hb59:aJ Tryz.prog 59=true:=by kernel_rfl
theorem hb6:aJ Tryz.prog 6=true:=by kernel_rfl
theorem hb60:aJ Tryz.prog 60=true:=by kernel_rfl
theorem hb61:aJ Tryz.prog 61=true:=by kernel_rfl
theorem hb62:aJ Tryz.prog 62=true:=by kernel_rfl
theorem hb63:aJ Tryz.prog 63=true:=by kernel_rfl
theorem hb64:aJ Tryz.prog 64=true:=by kernel_rfl
theorem hb65:aJ Tryz.prog 65=true:=by kernel_rfl
theorem CO:aJ Tryz.prog 66=true:=by kernel_rfl
theorem hb67:aJ Tryz.prog 67=true:=by kernel_rfl
theorem hb68:aJ Tryz.prog 68=true:=by kernel_rfl
theorem hb69:aJ Tryz.prog 69=true:=by kernel_rfl
theorem hb7:aJ Tryz.prog 7=true:=by kernel_rfl
theorem hb70:aJ Tryz.prog 70=true:=by kernel_rfl
theorem hb71:aJ Tryz.prog 71=true:=by kernel_rfl
theorem hb73:aJ Tryz.prog 73=true:=by kernel_rfl
theorem hb74:aJ Tryz.prog 74=true:=by kernel_rfl
theorem hb75:aJ Tryz.prog 75=true:=by kernel_rfl
theorem hb76:aJ Tryz.prog 76=true:=by kernel_rfl
theorem hb77:aJ Tryz.prog 77=true:=by kernel_rfl
theorem hb78:aJ Tryz.prog 78=true:=by kernel_rfl
theorem hb79:aJ Tryz.prog 79=true:=by kernel_rfl
theorem hb8:aJ Tryz.prog 8=true:=by kernel_rfl
theorem hb80:aJ Tryz.prog 80=true:=by kernel_rfl
theorem hb81:aJ Tryz.prog 81=true:=by kernel_rfl
theorem hb82:aJ Tryz.prog 82=true:=by kernel_rfl
theorem hb83:aJ Tryz.prog 83=true:=by kernel_rfl
theorem hb84:aJ Tryz.prog 84=true:=by kernel_rfl
theorem hb85:aJ Tryz.prog 85=true:=by kernel_rfl
theorem hb86:aJ Tryz.prog 86=true:=by kernel_rfl
theorem hb87:aJ Tryz.prog 87=true:=by kernel_rfl
theorem hb88:aJ Tryz.prog 88=true:=by kernel_rfl
theorem hb89:aJ Tryz.prog 89=true:=by kernel_rfl
theorem hb9:aJ Tryz.prog 9=true:=by kernel_rfl
theorem hb90:aJ Tryz.prog 90=true:=by kernel_rfl
theorem hb91:aJ Tryz.prog 91=true:=by kernel_rfl
theorem hb92:aJ Tryz.prog 92=true:=by kernel_rfl
theorem hb93:aJ Tryz.prog 93=true:=by kernel_rfl
theorem hb94:aJ Tryz.prog 94=true:=by kernel_rfl
theorem hb95:aJ Tryz.prog 95=true:=by kernel_rfl
theorem hb96:aJ Tryz.prog 96=true:=by kernel_rfl
theorem hb97:aJ Tryz.prog 97=true:=by kernel_rfl
theorem hb98:aJ Tryz.prog 98=true:=by kernel_rfl
theorem mt255:CU Tryz.prog 255=some (9,4):=by kernel_rfl
theorem mt91:CU Tryz.prog 91=some (48,92):=by kernel_rfl
theorem nb120:aJ Tryz.prog 120=false:=by kernel_rfl
theorem Bl:bB Tryz.prog 106 0=some (0,1):=by kernel_rfl
theorem xz:bB Tryz.prog 106 1=some (1,1):=by kernel_rfl
theorem Gp:bB Tryz.prog 106 2=some (2,1):=by kernel_rfl
theorem Dl:bB Tryz.prog 106 3=some (3,1):=by kernel_rfl
theorem LK:bB Tryz.prog 112 0=some (0,1):=by kernel_rfl
theorem pl112_1:bB Tryz.prog 112 1=some (1,1):=by kernel_rfl
theorem Uk:bB Tryz.prog 112 10=some (10,1):=by kernel_rfl
theorem Tx:bB Tryz.prog 112 11=some (11,1):=by kernel_rfl
theorem SI:bB Tryz.prog 112 12=some (12,1):=by kernel_rfl
theorem pl112_2:bB Tryz.prog 112 2=some (2,1):=by kernel_rfl
theorem Gu:bB Tryz.prog 112 3=some (3,1):=by kernel_rfl
theorem Gg:bB Tryz.prog 112 4=some (4,1):=by kernel_rfl
theorem PG:bB Tryz.prog 112 5=some (5,1):=by kernel_rfl
theorem Qt:bB Tryz.prog 112 6=some (6,1):=by kernel_rfl
theorem Qr:bB Tryz.prog 112 7=some (7,1):=by kernel_rfl
theorem Kv:bB Tryz.prog 112 8=some (8,1):=by kernel_rfl
theorem Qj:bB Tryz.prog 112 9=some (9,1):=by kernel_rfl
theorem pG:bB Tryz.prog 114 0=some (0,1):=by kernel_rfl
theorem o7:bB Tryz.prog 114 1=some (1,1):=by kernel_rfl
theorem Lh:bB Tryz.prog 117 0=some (0,1):=by kernel_rfl
theorem Pp:bB Tryz.prog 117 1=some (1,1):=by kernel_rfl
theorem Be:bB Tryz.prog 117 2=some (2,2):=by kernel_rfl
theorem pl117_3:bB Tryz.prog 117 3=some (4,1):=by kernel_rfl
theorem LM:bB Tryz.prog 117 4=some (5,1):=by kernel_rfl
theorem pl117_5:bB Tryz.prog 117 5=some (6,1):=by kernel_rfl
theorem pl117_6:bB Tryz.prog 117 6=some (7,1):=by kernel_rfl
theorem BG:bB Tryz.prog 120 0=some (0,1):=by kernel_rfl
theorem pl120_1:bB Tryz.prog 120 1=some (1,1):=by kernel_rfl
theorem Kl:bB Tryz.prog 120 2=some (2,1):=by kernel_rfl
theorem F9:bB Tryz.prog 120 3=some (3,1):=by kernel_rfl
theorem DW:bB Tryz.prog 120 4=some (4,1):=by kernel_rfl
theorem pl120_5:bB Tryz.prog 120 5=some (5,1):=by kernel_rfl
theorem pl120_6:bB Tryz.prog 120 6=some (6,1):=by kernel_rfl
theorem Gt:bB Tryz.prog 120 7=some (7,1):=by kernel_rfl
theorem KX:bB Tryz.prog 120 8=some (8,1):=by kernel_rfl
theorem LB:bB Tryz.prog 123 0=some (0,1):=by kernel_rfl
theorem LA:bB Tryz.prog 123 1=some (1,1):=by kernel_rfl
theorem Ls:bB Tryz.prog 123 2=some (2,1):=by kernel_rfl
theorem xC:bB Tryz.prog 168 0=some (0,1):=by kernel_rfl
theorem zh:bB Tryz.prog 168 1=some (1,1):=by kernel_rfl
theorem nX:bB Tryz.prog 210 0=some (0,1):=by kernel_rfl
theorem vz:bB Tryz.prog 210 1=some (1,1):=by kernel_rfl
theorem La:bB Tryz.prog 25 0=some (0,1):=by kernel_rfl
theorem G9:bB Tryz.prog 25 1=some (1,1):=by kernel_rfl
theorem ze:bB Tryz.prog 37 0=some (0,1):=by kernel_rfl
theorem Lr:bB Tryz.prog 37 1=some (1,1):=by kernel_rfl
theorem H7:bB Tryz.prog 37 2=some (2,1):=by kernel_rfl
theorem GQ:bB Tryz.prog 37 3=some (3,1):=by kernel_rfl
theorem K4:bB Tryz.prog 37 4=some (4,1):=by kernel_rfl
theorem GY:bB Tryz.prog 37 5=some (5,1):=by kernel_rfl
theorem Ew:bB Tryz.prog 42 0=some (0,1):=by kernel_rfl
theorem K7:bB Tryz.prog 42 1=some (1,1):=by kernel_rfl
theorem xP:bB Tryz.prog 42 2=some (2,1):=by kernel_rfl
theorem Tj:bB Tryz.prog 42 3=some (3,1):=by kernel_rfl
theorem S9:bB Tryz.prog 48 0=some (0,1):=by kernel_rfl
theorem TN:bB Tryz.prog 48 1=some (1,1):=by kernel_rfl
theorem Ui:bB Tryz.prog 48 2=some (2,1):=by kernel_rfl
theorem TW:bB Tryz.prog 48 3=some (3,1):=by kernel_rfl
theorem UD:bB Tryz.prog 48 4=some (4,1):=by kernel_rfl
theorem EK:bB Tryz.prog 66 0=some (0,1):=by kernel_rfl
theorem GI:bB Tryz.prog 66 1=some (1,1):=by kernel_rfl
theorem Ha:bB Tryz.prog 66 2=some (2,1):=by kernel_rfl
theorem TF:bB Tryz.prog 87 0=some (0,1):=by kernel_rfl
theorem LP:bB Tryz.prog 87 1=some (1,1):=by kernel_rfl
theorem pt92:Ql Tryz.prog 92=true:=by kernel_rfl
theorem tV:szT Tryz.prog 106=some 4:=by kernel_rfl
theorem JA:szT Tryz.prog 107=some 1:=by kernel_rfl
theorem GD:szT Tryz.prog 112=some 13:=by kernel_rfl
theorem vP:szT Tryz.prog 114=some 2:=by kernel_rfl
theorem PE:szT Tryz.prog 117=some 8:=by kernel_rfl
theorem zD:szT Tryz.prog 120=some 9:=by kernel_rfl
theorem PT:szT Tryz.prog 123=some 3:=by kernel_rfl
theorem JN:szT Tryz.prog 168=some 2:=by kernel_rfl
theorem qX:szT Tryz.prog 210=some 2:=by kernel_rfl
theorem Rf:szT Tryz.prog 22=some 1:=by kernel_rfl
theorem sz26:szT Tryz.prog 26=some 1:=by kernel_rfl
theorem sz3:szT Tryz.prog 3=some 1:=by kernel_rfl
theorem sz30:szT Tryz.prog 30=some 1:=by kernel_rfl
theorem sz32:szT Tryz.prog 32=some 1:=by kernel_rfl
theorem lw:szT Tryz.prog 37=some 6:=by kernel_rfl
theorem sz4:szT Tryz.prog 4=some 1:=by kernel_rfl
theorem zV:szT Tryz.prog 42=some 4:=by kernel_rfl
theorem AP:szT Tryz.prog 48=some 5:=by kernel_rfl
theorem sz5:szT Tryz.prog 5=some 1:=by kernel_rfl
theorem sz54:szT Tryz.prog 54=some 2:=by kernel_rfl
theorem QB:szT Tryz.prog 55=some 1:=by kernel_rfl
theorem K9:szT Tryz.prog 66=some 3:=by kernel_rfl
theorem Jq:szT Tryz.prog 87=some 2:=by kernel_rfl
theorem sz9:szT Tryz.prog 9=some 1:=by kernel_rfl
theorem yo:(Tryz.prog).underlying 107=some (.slice 106):=by kernel_rfl
theorem un108:(Tryz.prog).underlying 108=some (.slice 114):=by kernel_rfl
theorem un128:(Tryz.prog).underlying 128=some (.slice 26):=by kernel_rfl
theorem TI:(Tryz.prog).underlying 132=some (.slice 168):=by kernel_rfl
theorem Io:(Tryz.prog).underlying 139=some (.int .u64):=by kernel_rfl
theorem Kg:(Tryz.prog).underlying 142=some (.int .u64):=by kernel_rfl
theorem un150:(Tryz.prog).underlying 150=some (.slice 112):=by kernel_rfl
theorem un155:(Tryz.prog).underlying 155=some (.slice 117):=by kernel_rfl
theorem TS:(Tryz.prog).underlying 159=some (.slice 120):=by kernel_rfl
theorem un160:(Tryz.prog).underlying 160=some (.slice 123):=by kernel_rfl
theorem un162:(Tryz.prog).underlying 162=some (.slice 32):=by kernel_rfl
theorem Sc:(Tryz.prog).underlying 163=some (.slice 5):=by kernel_rfl
theorem BX:(Tryz.prog).underlying 205=some (.slice 210):=by kernel_rfl
theorem Ar:(Tryz.prog).underlying 22=some (.slice 3):=by kernel_rfl
theorem un247:(Tryz.prog).underlying 247=some (.slice 107):=by kernel_rfl
theorem uK:(Tryz.prog).underlying 26=some (.slice 37):=by kernel_rfl
theorem QN:(Tryz.prog).underlying 28=some (.slice 66):=by kernel_rfl
theorem un3:(Tryz.prog).underlying 3=some (.int .i64):=by kernel_rfl
theorem Je:(Tryz.prog).underlying 30=some (.slice 42):=by kernel_rfl
theorem un4:(Tryz.prog).underlying 4=some .bool:=by kernel_rfl
theorem un43:(Tryz.prog).underlying 43=some (.slice 48):=by kernel_rfl
theorem un49:(Tryz.prog).underlying 49=some (.slice 54):=by kernel_rfl
theorem un5:(Tryz.prog).underlying 5=some (.int .u8):=by kernel_rfl
theorem vk:(Tryz.prog).underlying 55=some (.slice 9):=by kernel_rfl
theorem un76:(Tryz.prog).underlying 76=some (.array 2 26):=by kernel_rfl
theorem un83:(Tryz.prog).underlying 83=some (.slice 87):=by kernel_rfl
theorem un9:(Tryz.prog).underlying 9=some .string:=by kernel_rfl
theorem un96:(Tryz.prog).underlying 96=some (.array 2 30):=by kernel_rfl
theorem un97:(Tryz.prog).underlying 97=some (.slice 4):=by kernel_rfl
theorem L6:zeroCells Tryz.prog 106=some [.d (.int .i64 0),.d (.int .i64 0),.d (.int .i64 0),.d (.int .i64 0)]:=by kernel_rfl
theorem z112:zeroCells Tryz.prog 112=some [.d (.str ⟨#[]⟩),.d (.str ⟨#[]⟩),.d (.int .i64 0),.d (.int .i64 0),.d (.int .i64 0),.d (.int .i64 0),.d (.int .i64 0),.nil,.d (.int .i64 0),.d (.int .i64 0),.d (.int .i64 0),.nil,.d (.bool false)]:=by kernel_rfl
theorem Sk:zeroCells Tryz.prog 114=some [.d (.int .i64 0),.d (.int .i64 0)]:=by kernel_rfl
theorem z117:zeroCells Tryz.prog 117=some [.d (.str ⟨#[]⟩),.d (.str ⟨#[]⟩),.d (.int .i64 0),.d (.int .i64 0),.nil,.d (.int .i64 0),.d (.int .i64 0),.d (.int .i64 0)]:=by kernel_rfl
theorem z120:zeroCells Tryz.prog 120=some [.d (.str ⟨#[]⟩),.d (.str ⟨#[]⟩),.d (.int .i64 0),.nil,.d (.int .i64 0),.d (.int .i64 0),.d (.int .i64 0),.nil,.d (.str ⟨#[]⟩)]:=by kernel_rfl
theorem z123:zeroCells Tryz.prog 123=some [.d (.str ⟨#[]⟩),.d (.int .i64 0),.d (.int .i64 0)]:=by kernel_rfl
theorem z168:zeroCells Tryz.prog 168=some [.d (.int .i64 0),.d (.int .i64 0)]:=by kernel_rfl
theorem z210:zeroCells Tryz.prog 210=some [.d (.int .i64 0),.d (.int .i64 0)]:=by kernel_rfl
theorem z238:zeroCells Tryz.prog 238=some [.d (.int .u8 0),.d (.int .u8 0),.d (.int .u8 0),.d (.int .u8 0),.d (.int .u8 0),.d (.int .u8 0),.d (.int .u8 0),.d (.int .u8 0),.d (.int .u8 0),.d (.int .u8 0),.d (.int .u8 0),.d (.int .u8 0),.d (.int .u8 0),.d (.int .u8 0),.d (.int .u8 0),.d (.int .u8 0),.d (.int .u8 0),.d (.int .u8 0),.d (.int .u8 0),.d (.int .u8 0),.d (.int .u8 0),.d (.int .u8 0),.d (.int .u8 0),.d (.int .u8 0)]:=by kernel_rfl
theorem z267:zeroCells Tryz.prog 267=some [.d (.int .u8 0),.d (.int .u8 0),.d (.int .u8 0),.d (.int .u8 0),.d (.int .u8 0),.d (.int .u8 0),.d (.int .u8 0),.d (.int .u8 0),.d (.int .u8 0),.d (.int .u8 0),.d (.int .u8 0),.d (.int .u8 0),.d (.int .u8 0),.d (.int .u8 0),.d (.int .u8 0),.d (.int .u8 0),.d (.int .u8 0),.d (.int .u8 0),.d (.int .u8 0),.d (.int .u8 0),.d (.int .u8 0),.d (.int .u8 0),.d (.int .u8 0),.d (.int .u8 0),.d (.int .u8 0),.d (.int .u8 0),.d (.int .u8 0),.d (.int .u8 0),.d (.int .u8 0),.d (.int .u8 0),.d (.int .u8 0),.d (.int .u8 0),.d (.int .u8 0),.d (.int .u8 0),.d (.int .u8 0),.d (.int .u8 0),.d (.int .u8 0),.d (.int .u8 0),.d (.int .u8 0),.d (.int .u8 0),.d (.int .u8 0),.d (.int .u8 0),.d (.int .u8 0),.d (.int .u8 0),.d (.int .u8 0),.d (.int .u8 0),.d (.int .u8 0),.d (.int .u8 0),.d (.int .u8 0),.d (.int .u8 0),.d (.int .u8 0),.d (.int .u8 0),.d (.int .u8 0),.d (.int .u8 0),.d (.int .u8 0),.d (.int .u8 0),.d (.int .u8 0),.d (.int .u8 0),.d (.int .u8 0),.d (.int .u8 0),.d (.int .u8 0),.d (.int .u8 0),.d (.int .u8 0),.d (.int .u8 0),.d (.int .u8 0)]:=by kernel_rfl
theorem z3:zeroCells Tryz.prog 3=some [.d (.int .i64 0)]:=by kernel_rfl
theorem z37:zeroCells Tryz.prog 37=some [.d (.str ⟨#[]⟩),.d (.str ⟨#[]⟩),.d (.int .i64 0),.d (.int .i64 0),.d (.int .i64 0),.d (.str ⟨#[]⟩)]:=by kernel_rfl
theorem z4:zeroCells Tryz.prog 4=some [.d (.bool false)]:=by kernel_rfl
theorem z42:zeroCells Tryz.prog 42=some [.d (.str ⟨#[]⟩),.d (.str ⟨#[]⟩),.d (.int .i64 0),.d (.int .i64 0)]:=by kernel_rfl
theorem z48:zeroCells Tryz.prog 48=some [.d (.str ⟨#[]⟩),.d (.str ⟨#[]⟩),.d (.int .i64 0),.d (.int .i64 0),.d (.int .i64 0)]:=by kernel_rfl
theorem z54:zeroCells Tryz.prog 54=some [.d (.int .i64 0),.d (.int .i64 0)]:=by kernel_rfl
theorem z66:zeroCells Tryz.prog 66=some [.d (.str ⟨#[]⟩),.d (.int .i64 0),.d (.int .i64 0)]:=by kernel_rfl
theorem z87:zeroCells Tryz.prog 87=some [.d (.int .i64 0),.d (.int .i64 0)]:=by kernel_rfl
theorem z9:zeroCells Tryz.prog 9=some [.d (.str ⟨#[]⟩)]:=by kernel_rfl
theorem laid_db : ∀ w, Go.Eng.zH w → Go.Lib.TabIs Go.Proofs.Tryz.prog w "math/bits.deBruijn64tab" .u8 (Go.Lib.deBruijn64tab.map (fun (n : Nat) => (n : Int))) := fun _ h => h.1
theorem O3 : ∀ w, Go.Eng.zH w → Go.Lib.TabIs Go.Proofs.Tryz.prog w "internal/strconv.uint64pow10" .u64 Go.Lib.pow10Tab := fun _ h => h.2.1
theorem MZ:∀w,Go.Eng.zH w->(∃m,w.cell? ⟨0,0,none⟩=some (.int .i64 m)):=λ_ h=>h.2.2.1
theorem QD:∀w,Go.Eng.zH w->Go.Lib.Utf8Tabs 2 3 w:=λ_ h=>h.2.2.2
theorem db_g : Tryz.prog.globalNamed "math/bits.deBruijn64tab" = some 5 := by kernel_rfl
end Go.Proofs.YtnfojnnfidnikaeGreatDoor.Law

