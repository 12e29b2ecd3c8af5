/-
  Closed facts on the types and functions of the program.
-/
import Derived.Test.YtnkgapmhkhcanabGreatDoorProg
import Derived.Test.YtnkgapmhkhcanabGreatDoorEng5
open Go Go.Eng Go.Proofs
namespace Go.Proofs.YtnkgapmhkhcanabGreatDoor.Law
set_option maxRecDepth 100000
set_option linter.unusedVariables false
set_option maxHeartbeats 1000000
theorem ab197:wC Tryz.prog 197=some 24:=by kernel_rfl
theorem A8:wC Tryz.prog 228=some 65:=by kernel_rfl
theorem xu:bP Tryz.prog 155=true:=by kernel_rfl
theorem lb_ {a b:Nat} (h:Nat.ble a b=true):a<=b:=Nat.le_of_ble_eq_true h
abbrev SL_:=List (Nat×V)
theorem ag192:bP Tryz.prog 192=true:=by kernel_rfl
theorem Mm:bP Tryz.prog 22=false:=by kernel_rfl
theorem ag26:bP Tryz.prog 26=false:=by kernel_rfl
theorem ag3:bP Tryz.prog 3=false:=by kernel_rfl
theorem ni:bP Tryz.prog 30=true:=by kernel_rfl
theorem ag31:bP Tryz.prog 31=false:=by kernel_rfl
theorem ag4:bP Tryz.prog 4=false:=by kernel_rfl
theorem Ld:bP Tryz.prog 50=false:=by kernel_rfl
theorem Iz:bP Tryz.prog 78=true:=by kernel_rfl
theorem Ls:bP Tryz.prog 79=false:=by kernel_rfl
theorem Mg:bP Tryz.prog 84=true:=by kernel_rfl
theorem Gg:bP Tryz.prog 86=true:=by kernel_rfl
theorem ag89:bP Tryz.prog 89=true:=by kernel_rfl
theorem ag9:bP Tryz.prog 9=false:=by kernel_rfl
theorem ag92:bP Tryz.prog 92=true:=by kernel_rfl
theorem FZ:bP Tryz.prog 95=true:=by kernel_rfl
theorem ag99:bP Tryz.prog 99=true:=by kernel_rfl
theorem KU:bytesT Tryz.prog 155=16:=by kernel_rfl
theorem by192:bytesT Tryz.prog 192=16:=by kernel_rfl
theorem by3:bytesT Tryz.prog 3=8:=by kernel_rfl
theorem Lm:bytesT Tryz.prog 30=72:=by kernel_rfl
theorem by78:bytesT Tryz.prog 78=32:=by kernel_rfl
theorem by86:bytesT Tryz.prog 86=16:=by kernel_rfl
theorem Be:elemT Tryz.prog 150=some 155:=by kernel_rfl
theorem KW:elemT Tryz.prog 163=some 192:=by kernel_rfl
theorem IZ:elemT Tryz.prog 22=some 3:=by kernel_rfl
theorem zw:elemT Tryz.prog 26=some 30:=by kernel_rfl
theorem J7:elemT Tryz.prog 79=some 78:=by kernel_rfl
theorem el80:elemT Tryz.prog 80=some 86:=by kernel_rfl
theorem N7:(elemT Tryz.prog 105).bind (szT Tryz.prog)=some 1:=by kernel_rfl
theorem Nu:(elemT Tryz.prog 117).bind (szT Tryz.prog)=some 13:=by kernel_rfl
theorem Nk:(elemT Tryz.prog 122).bind (szT Tryz.prog)=some 8:=by kernel_rfl
theorem K8:(elemT Tryz.prog 127).bind (szT Tryz.prog)=some 9:=by kernel_rfl
theorem Nc:(elemT Tryz.prog 128).bind (szT Tryz.prog)=some 3:=by kernel_rfl
theorem lc:(elemT Tryz.prog 150).bind (szT Tryz.prog)=some 2:=by kernel_rfl
theorem y8:(elemT Tryz.prog 163).bind (szT Tryz.prog)=some 2:=by kernel_rfl
theorem MO:(elemT Tryz.prog 182).bind (szT Tryz.prog)=some 1:=by kernel_rfl
theorem qV:(elemT Tryz.prog 22).bind (szT Tryz.prog)=some 1:=by kernel_rfl
theorem kG:(elemT Tryz.prog 26).bind (szT Tryz.prog)=some 6:=by kernel_rfl
theorem yT:(elemT Tryz.prog 50).bind (szT Tryz.prog)=some 1:=by kernel_rfl
theorem es54:(elemT Tryz.prog 54).bind (szT Tryz.prog)=some 1:=by kernel_rfl
theorem E5:(elemT Tryz.prog 79).bind (szT Tryz.prog)=some 4:=by kernel_rfl
theorem es80:(elemT Tryz.prog 80).bind (szT Tryz.prog)=some 2:=by kernel_rfl
theorem LU:(elemT Tryz.prog 93).bind (szT Tryz.prog)=some 3:=by kernel_rfl
theorem ez105:((elemT Tryz.prog 105).bind (zeroCells Tryz.prog)).isSome=true:=by kernel_rfl
theorem ez117:((elemT Tryz.prog 117).bind (zeroCells Tryz.prog)).isSome=true:=by kernel_rfl
theorem ez122:((elemT Tryz.prog 122).bind (zeroCells Tryz.prog)).isSome=true:=by kernel_rfl
theorem ez127:((elemT Tryz.prog 127).bind (zeroCells Tryz.prog)).isSome=true:=by kernel_rfl
theorem ez128:((elemT Tryz.prog 128).bind (zeroCells Tryz.prog)).isSome=true:=by kernel_rfl
theorem K3:((elemT Tryz.prog 150).bind (zeroCells Tryz.prog)).isSome=true:=by kernel_rfl
theorem ez163:((elemT Tryz.prog 163).bind (zeroCells Tryz.prog)).isSome=true:=by kernel_rfl
theorem ez182:((elemT Tryz.prog 182).bind (zeroCells Tryz.prog)).isSome=true:=by kernel_rfl
theorem J2:((elemT Tryz.prog 22).bind (zeroCells Tryz.prog)).isSome=true:=by kernel_rfl
theorem ez26:((elemT Tryz.prog 26).bind (zeroCells Tryz.prog)).isSome=true:=by kernel_rfl
theorem ez50:((elemT Tryz.prog 50).bind (zeroCells Tryz.prog)).isSome=true:=by kernel_rfl
theorem ez54:((elemT Tryz.prog 54).bind (zeroCells Tryz.prog)).isSome=true:=by kernel_rfl
theorem ez79:((elemT Tryz.prog 79).bind (zeroCells Tryz.prog)).isSome=true:=by kernel_rfl
theorem ez80:((elemT Tryz.prog 80).bind (zeroCells Tryz.prog)).isSome=true:=by kernel_rfl
theorem ez93:((elemT Tryz.prog 93).bind (zeroCells Tryz.prog)).isSome=true:=by kernel_rfl
theorem Lv:aF Tryz.prog 10=true:=by kernel_rfl
theorem hb100:aF Tryz.prog 100=true:=by kernel_rfl
theorem hb101:aF Tryz.prog 101=true:=by kernel_rfl
theorem hb102:aF Tryz.prog 102=true:=by kernel_rfl
theorem hb103:aF Tryz.prog 103=true:=by kernel_rfl
theorem hb104:aF Tryz.prog 104=true:=by kernel_rfl
theorem hb11:aF Tryz.prog 11=true:=by kernel_rfl
theorem hb118:aF Tryz.prog 118=true:=by kernel_rfl
theorem hb119:aF Tryz.prog 119=true:=by kernel_rfl
theorem hb12:aF Tryz.prog 12=true:=by kernel_rfl
theorem hb122:aF Tryz.prog 122=true:=by kernel_rfl
theorem hb124:aF Tryz.prog 124=true:=by kernel_rfl
theorem hb125:aF Tryz.prog 125=true:=by kernel_rfl
theorem hb126:aF Tryz.prog 126=true:=by kernel_rfl
theorem hb127:aF Tryz.prog 127=true:=by kernel_rfl
theorem hb128:aF Tryz.prog 128=true:=by kernel_rfl
theorem hb129:aF Tryz.prog 129=true:=by kernel_rfl
theorem hb13:aF Tryz.prog 13=true:=by kernel_rfl
theorem hb130:aF Tryz.prog 130=true:=by kernel_rfl
theorem hb131:aF Tryz.prog 131=true:=by kernel_rfl
theorem hb132:aF Tryz.prog 132=true:=by kernel_rfl
theorem hb133:aF Tryz.prog 133=true:=by kernel_rfl
theorem hb134:aF Tryz.prog 134=true:=by kernel_rfl
theorem hb138:aF Tryz.prog 138=true:=by kernel_rfl
theorem hb14:aF Tryz.prog 14=true:=by kernel_rfl
theorem hb141:aF Tryz.prog 141=true:=by kernel_rfl
theorem hb15:aF Tryz.prog 15=true:=by kernel_rfl
theorem hb16:aF Tryz.prog 16=true:=by kernel_rfl
theorem hb161:aF Tryz.prog 161=true:=by kernel_rfl
theorem hb165:aF Tryz.prog 165=true:=by kernel_rfl
theorem hb166:aF Tryz.prog 166=true:=by kernel_rfl
theorem hb167:aF Tryz.prog 167=true:=by kernel_rfl
theorem hb168:aF Tryz.prog 168=true:=by kernel_rfl
theorem hb169:aF Tryz.prog 169=true:=by kernel_rfl
theorem hb17:aF Tryz.prog 17=true:=by kernel_rfl
theorem hb170:aF Tryz.prog 170=true:=by kernel_rfl
theorem hb173:aF Tryz.prog 173=true:=by kernel_rfl
theorem hb174:aF Tryz.prog 174=true:=by kernel_rfl
theorem hb18:aF Tryz.prog 18=true:=by kernel_rfl
theorem hb19:aF Tryz.prog 19=true:=by kernel_rfl
theorem hb190:aF Tryz.prog 190=true:=by kernel_rfl
theorem hb198:aF Tryz.prog 198=true:=by kernel_rfl
theorem hb199:aF Tryz.prog 199=true:=by kernel_rfl
theorem hb20:aF Tryz.prog 20=true:=by kernel_rfl
theorem hb21:aF Tryz.prog 21=true:=by kernel_rfl
theorem hb22:aF Tryz.prog 22=true:=by kernel_rfl
theorem hb23:aF Tryz.prog 23=true:=by kernel_rfl
theorem hb24:aF Tryz.prog 24=true:=by kernel_rfl
theorem hb25:aF Tryz.prog 25=true:=by kernel_rfl
theorem hb26:aF Tryz.prog 26=true:=by kernel_rfl
theorem hb27:aF Tryz.prog 27=true:=by kernel_rfl
theorem hb28:aF Tryz.prog 28=true:=by kernel_rfl
theorem hb29:aF Tryz.prog 29=true:=by kernel_rfl
theorem hb30:aF Tryz.prog 30=true:=by kernel_rfl
theorem hb31:aF Tryz.prog 31=true:=by kernel_rfl
theorem hb32:aF Tryz.prog 32=true:=by kernel_rfl
theorem hb33:aF Tryz.prog 33=true:=by kernel_rfl
theorem hb34:aF Tryz.prog 34=true:=by kernel_rfl
theorem hb35:aF Tryz.prog 35=true:=by kernel_rfl
theorem hb36:aF Tryz.prog 36=true:=by kernel_rfl
theorem hb37:aF Tryz.prog 37=true:=by kernel_rfl
theorem hb38:aF Tryz.prog 38=true:=by kernel_rfl
theorem AQ:aF Tryz.prog 39=true:=by kernel_rfl
theorem hb4:aF Tryz.prog 4=true:=by kernel_rfl
theorem pU:aF Tryz.prog 40=true:=by kernel_rfl
theorem hb41:aF Tryz.prog 41=true:=by kernel_rfl
theorem hb42:aF Tryz.prog 42=true:=by kernel_rfl
theorem hb43:aF Tryz.prog 43=true:=by kernel_rfl
theorem hb44:aF Tryz.prog 44=true:=by kernel_rfl
theorem hb45:aF Tryz.prog 45=true:=by kernel_rfl
theorem hb46:aF Tryz.prog 46=true:=by kernel_rfl
theorem hb47:aF Tryz.prog 47=true:=by kernel_rfl
theorem hb49:aF Tryz.prog 49=true:=by kernel_rfl
theorem hb5:aF Tryz.prog 5=true:=by kernel_rfl
theorem hb50:aF Tryz.prog 50=true:=by kernel_rfl
theorem hb51:aF Tryz.prog 51=true:=by kernel_rfl
theorem hb52:aF Tryz.prog 52=true:=by kernel_rfl
theorem hb53:aF Tryz.prog 53=true:=by kernel_rfl
theorem hb54:aF Tryz.prog 54=true:=by kernel_rfl
theorem hb55:aF Tryz.prog 55=true:=by kernel_rfl
theorem hb56:aF Tryz.prog 56=true:=by kernel_rfl
theorem hb57:aF Tryz.prog 57=true:=by kernel_rfl
theorem hb58:aF Tryz.prog 58=true:=by kernel_rfl
theorem hb59:aF Tryz.prog 59=true:=by kernel_rfl
theorem hb6:aF Tryz.prog 6=true:=by kernel_rfl
theorem hb60:aF Tryz.prog 60=true:=by kernel_rfl
theorem JX:aF Tryz.prog 61=true:=by kernel_rfl
theorem hb62:aF Tryz.prog 62=true:=by kernel_rfl
theorem hb63:aF Tryz.prog 63=true:=by kernel_rfl
theorem hb64:aF Tryz.prog 64=true:=by kernel_rfl
theorem hb65:aF Tryz.prog 65=true:=by kernel_rfl
theorem hb66:aF Tryz.prog 66=true:=by kernel_rfl
theorem hb67:aF Tryz.prog 67=true:=by kernel_rfl
theorem hb7:aF Tryz.prog 7=true:=by kernel_rfl
theorem hb75:aF Tryz.prog 75=true:=by kernel_rfl
theorem hb76:aF Tryz.prog 76=true:=by kernel_rfl
theorem hb77:aF Tryz.prog 77=true:=by kernel_rfl
theorem hb8:aF Tryz.prog 8=true:=by kernel_rfl
theorem hb82:aF Tryz.prog 82=true:=by kernel_rfl
theorem hb83:aF Tryz.prog 83=true:=by kernel_rfl
theorem hb84:aF Tryz.prog 84=true:=by kernel_rfl
theorem hb85:aF Tryz.prog 85=true:=by kernel_rfl
theorem hb86:aF Tryz.prog 86=true:=by kernel_rfl
theorem hb87:aF Tryz.prog 87=true:=by kernel_rfl
theorem hb88:aF Tryz.prog 88=true:=by kernel_rfl
theorem hb89:aF Tryz.prog 89=true:=by kernel_rfl
theorem hb9:aF Tryz.prog 9=true:=by kernel_rfl
theorem hb90:aF Tryz.prog 90=true:=by kernel_rfl
theorem hb91:aF Tryz.prog 91=true:=by kernel_rfl
theorem hb92:aF Tryz.prog 92=true:=by kernel_rfl
theorem hb93:aF Tryz.prog 93=true:=by kernel_rfl
theorem hb94:aF Tryz.prog 94=true:=by kernel_rfl
theorem hb95:aF Tryz.prog 95=true:=by kernel_rfl
theorem hb96:aF Tryz.prog 96=true:=by kernel_rfl
theorem hb97:aF Tryz.prog 97=true:=by kernel_rfl
theorem hb98:aF Tryz.prog 98=true:=by kernel_rfl
theorem hb99:aF Tryz.prog 99=true:=by kernel_rfl
theorem if65:KS Tryz.prog 65=true:=by kernel_rfl
theorem mt195:G7 Tryz.prog 195=some (9,4):=by kernel_rfl
theorem nb112:aF Tryz.prog 112=false:=by kernel_rfl
theorem kw:bE Tryz.prog 155 0=some (0,1):=by kernel_rfl
theorem qK:bE Tryz.prog 155 1=some (1,1):=by kernel_rfl
theorem sG:bE Tryz.prog 192 0=some (0,1):=by kernel_rfl
theorem uT:bE Tryz.prog 192 1=some (1,1):=by kernel_rfl
theorem FT:bE Tryz.prog 25 0=some (0,1):=by kernel_rfl
theorem Cv:bE Tryz.prog 25 1=some (1,1):=by kernel_rfl
theorem rD:bE Tryz.prog 30 0=some (0,1):=by kernel_rfl
theorem NG:bE Tryz.prog 30 1=some (1,1):=by kernel_rfl
theorem qy:bE Tryz.prog 30 2=some (2,1):=by kernel_rfl
theorem NB:bE Tryz.prog 30 3=some (3,1):=by kernel_rfl
theorem Gm:bE Tryz.prog 30 4=some (4,1):=by kernel_rfl
theorem Av:bE Tryz.prog 30 5=some (5,1):=by kernel_rfl
theorem Ab:bE Tryz.prog 78 0=some (0,1):=by kernel_rfl
theorem wY:bE Tryz.prog 78 1=some (1,1):=by kernel_rfl
theorem Gt:bE Tryz.prog 78 2=some (2,1):=by kernel_rfl
theorem Dv:bE Tryz.prog 78 3=some (3,1):=by kernel_rfl
theorem Jz:bE Tryz.prog 84 0=some (0,1):=by kernel_rfl
theorem pl84_1:bE Tryz.prog 84 1=some (1,1):=by kernel_rfl
theorem pl84_10:bE Tryz.prog 84 10=some (10,1):=by kernel_rfl
theorem pl84_11:bE Tryz.prog 84 11=some (11,1):=by kernel_rfl
theorem pl84_12:bE Tryz.prog 84 12=some (12,1):=by kernel_rfl
theorem pl84_2:bE Tryz.prog 84 2=some (2,1):=by kernel_rfl
theorem Gs:bE Tryz.prog 84 3=some (3,1):=by kernel_rfl
theorem Fa:bE Tryz.prog 84 4=some (4,1):=by kernel_rfl
theorem OO:bE Tryz.prog 84 5=some (5,1):=by kernel_rfl
theorem OI:bE Tryz.prog 84 6=some (6,1):=by kernel_rfl
theorem Nl:bE Tryz.prog 84 7=some (7,1):=by kernel_rfl
theorem JG:bE Tryz.prog 84 8=some (8,1):=by kernel_rfl
theorem Oj:bE Tryz.prog 84 9=some (9,1):=by kernel_rfl
theorem ol:bE Tryz.prog 86 0=some (0,1):=by kernel_rfl
theorem oD:bE Tryz.prog 86 1=some (1,1):=by kernel_rfl
theorem Js:bE Tryz.prog 89 0=some (0,1):=by kernel_rfl
theorem MN:bE Tryz.prog 89 1=some (1,1):=by kernel_rfl
theorem zZ:bE Tryz.prog 89 2=some (2,2):=by kernel_rfl
theorem pl89_3:bE Tryz.prog 89 3=some (4,1):=by kernel_rfl
theorem JN:bE Tryz.prog 89 4=some (5,1):=by kernel_rfl
theorem pl89_5:bE Tryz.prog 89 5=some (6,1):=by kernel_rfl
theorem pl89_6:bE Tryz.prog 89 6=some (7,1):=by kernel_rfl
theorem zS:bE Tryz.prog 92 0=some (0,1):=by kernel_rfl
theorem DF:bE Tryz.prog 92 1=some (1,1):=by kernel_rfl
theorem Ct:bE Tryz.prog 92 2=some (2,1):=by kernel_rfl
theorem AY:bE Tryz.prog 95 0=some (0,1):=by kernel_rfl
theorem pl95_1:bE Tryz.prog 95 1=some (1,1):=by kernel_rfl
theorem Je:bE Tryz.prog 95 2=some (2,1):=by kernel_rfl
theorem FO:bE Tryz.prog 95 3=some (3,1):=by kernel_rfl
theorem DN:bE Tryz.prog 95 4=some (4,1):=by kernel_rfl
theorem pl95_5:bE Tryz.prog 95 5=some (5,1):=by kernel_rfl
theorem pl95_6:bE Tryz.prog 95 6=some (6,1):=by kernel_rfl
theorem Fv:bE Tryz.prog 95 7=some (7,1):=by kernel_rfl
theorem I8:bE Tryz.prog 95 8=some (8,1):=by kernel_rfl
theorem JS:bE Tryz.prog 99 0=some (0,1):=by kernel_rfl
theorem JK:bE Tryz.prog 99 1=some (1,1):=by kernel_rfl
theorem Jr:bE Tryz.prog 99 2=some (2,1):=by kernel_rfl
theorem mX:szT Tryz.prog 155=some 2:=by kernel_rfl
theorem EF:szT Tryz.prog 192=some 2:=by kernel_rfl
theorem L8:szT Tryz.prog 22=some 1:=by kernel_rfl
theorem sz26:szT Tryz.prog 26=some 1:=by kernel_rfl
theorem sz3:szT Tryz.prog 3=some 1:=by kernel_rfl
theorem fT:szT Tryz.prog 30=some 6:=by kernel_rfl
theorem sz31:szT Tryz.prog 31=some 1:=by kernel_rfl
theorem sz4:szT Tryz.prog 4=some 1:=by kernel_rfl
theorem sz5:szT Tryz.prog 5=some 1:=by kernel_rfl
theorem MG:szT Tryz.prog 50=some 1:=by kernel_rfl
theorem wR:szT Tryz.prog 78=some 4:=by kernel_rfl
theorem Md:szT Tryz.prog 79=some 1:=by kernel_rfl
theorem JC:szT Tryz.prog 84=some 13:=by kernel_rfl
theorem yF:szT Tryz.prog 86=some 2:=by kernel_rfl
theorem sz89:szT Tryz.prog 89=some 8:=by kernel_rfl
theorem sz9:szT Tryz.prog 9=some 1:=by kernel_rfl
theorem LJ:szT Tryz.prog 92=some 3:=by kernel_rfl
theorem BJ:szT Tryz.prog 95=some 9:=by kernel_rfl
theorem sz99:szT Tryz.prog 99=some 3:=by kernel_rfl
theorem un105:(Tryz.prog).underlying 105=some (.slice 26):=by kernel_rfl
theorem un117:(Tryz.prog).underlying 117=some (.slice 84):=by kernel_rfl
theorem un122:(Tryz.prog).underlying 122=some (.slice 89):=by kernel_rfl
theorem MU:(Tryz.prog).underlying 127=some (.slice 95):=by kernel_rfl
theorem un128:(Tryz.prog).underlying 128=some (.slice 99):=by kernel_rfl
theorem GX:(Tryz.prog).underlying 130=some (.int .u64):=by kernel_rfl
theorem yu:(Tryz.prog).underlying 150=some (.slice 155):=by kernel_rfl
theorem MP:(Tryz.prog).underlying 163=some (.slice 192):=by kernel_rfl
theorem EU:(Tryz.prog).underlying 169=some (.int .u64):=by kernel_rfl
theorem un182:(Tryz.prog).underlying 182=some (.slice 79):=by kernel_rfl
theorem uF:(Tryz.prog).underlying 22=some (.slice 3):=by kernel_rfl
theorem lX:(Tryz.prog).underlying 26=some (.slice 30):=by kernel_rfl
theorem un3:(Tryz.prog).underlying 3=some (.int .i64):=by kernel_rfl
theorem un4:(Tryz.prog).underlying 4=some .bool:=by kernel_rfl
theorem un5:(Tryz.prog).underlying 5=some (.int .u8):=by kernel_rfl
theorem AU:(Tryz.prog).underlying 50=some (.slice 9):=by kernel_rfl
theorem un54:(Tryz.prog).underlying 54=some (.slice 31):=by kernel_rfl
theorem un57:(Tryz.prog).underlying 57=some (.array 2 26):=by kernel_rfl
theorem un61:(Tryz.prog).underlying 61=some (.slice 5):=by kernel_rfl
theorem AC:(Tryz.prog).underlying 79=some (.slice 78):=by kernel_rfl
theorem un80:(Tryz.prog).underlying 80=some (.slice 86):=by kernel_rfl
theorem un9:(Tryz.prog).underlying 9=some .string:=by kernel_rfl
theorem un93:(Tryz.prog).underlying 93=some (.slice 92):=by kernel_rfl
theorem Jk:zeroCells Tryz.prog 155=some [.d (.int .i64 0),.d (.int .i64 0)]:=by kernel_rfl
theorem z192:zeroCells Tryz.prog 192=some [.d (.int .i64 0),.d (.int .i64 0)]:=by kernel_rfl
theorem z197:zeroCells Tryz.prog 197=some [.d (.int .u8 0),.d (.int .u8 0),.d (.int .u8 0),.d (.int .u8 0),.d (.int .u8 0),.d (.int .u8 0),.d (.int .u8 0),.d (.int .u8 0),.d (.int .u8 0),.d (.int .u8 0),.d (.int .u8 0),.d (.int .u8 0),.d (.int .u8 0),.d (.int .u8 0),.d (.int .u8 0),.d (.int .u8 0),.d (.int .u8 0),.d (.int .u8 0),.d (.int .u8 0),.d (.int .u8 0),.d (.int .u8 0),.d (.int .u8 0),.d (.int .u8 0),.d (.int .u8 0)]:=by kernel_rfl
theorem z228:zeroCells Tryz.prog 228=some [.d (.int .u8 0),.d (.int .u8 0),.d (.int .u8 0),.d (.int .u8 0),.d (.int .u8 0),.d (.int .u8 0),.d (.int .u8 0),.d (.int .u8 0),.d (.int .u8 0),.d (.int .u8 0),.d (.int .u8 0),.d (.int .u8 0),.d (.int .u8 0),.d (.int .u8 0),.d (.int .u8 0),.d (.int .u8 0),.d (.int .u8 0),.d (.int .u8 0),.d (.int .u8 0),.d (.int .u8 0),.d (.int .u8 0),.d (.int .u8 0),.d (.int .u8 0),.d (.int .u8 0),.d (.int .u8 0),.d (.int .u8 0),.d (.int .u8 0),.d (.int .u8 0),.d (.int .u8 0),.d (.int .u8 0),.d (.int .u8 0),.d (.int .u8 0),.d (.int .u8 0),.d (.int .u8 0),.d (.int .u8 0),.d (.int .u8 0),.d (.int .u8 0),.d (.int .u8 0),.d (.int .u8 0),.d (.int .u8 0),.d (.int .u8 0),.d (.int .u8 0),.d (.int .u8 0),.d (.int .u8 0),.d (.int .u8 0),.d (.int .u8 0),.d (.int .u8 0),.d (.int .u8 0),.d (.int .u8 0),.d (.int .u8 0),.d (.int .u8 0),.d (.int .u8 0),.d (.int .u8 0),.d (.int .u8 0),.d (.int .u8 0),.d (.int .u8 0),.d (.int .u8 0),.d (.int .u8 0),.d (.int .u8 0),.d (.int .u8 0),.d (.int .u8 0),.d (.int .u8 0),.d (.int .u8 0),.d (.int .u8 0),.d (.int .u8 0)]:=by kernel_rfl
theorem z3:zeroCells Tryz.prog 3=some [.d (.int .i64 0)]:=by kernel_rfl
theorem z30:zeroCells Tryz.prog 30=some [.d (.str ⟨#[]⟩),.d (.str ⟨#[]⟩),.d (.int .i64 0),.d (.int .i64 0),.d (.int .i64 0),.d (.str ⟨#[]⟩)]:=by kernel_rfl
theorem z63:zeroCells Tryz.prog 63=some [.d .nilp,.nil]:=by kernel_rfl
theorem z78:zeroCells Tryz.prog 78=some [.d (.int .i64 0),.d (.int .i64 0),.d (.int .i64 0),.d (.int .i64 0)]:=by kernel_rfl
theorem z84:zeroCells Tryz.prog 84=some [.d (.str ⟨#[]⟩),.d (.str ⟨#[]⟩),.d (.int .i64 0),.d (.int .i64 0),.d (.int .i64 0),.d (.int .i64 0),.d (.int .i64 0),.nil,.d (.int .i64 0),.d (.int .i64 0),.d (.int .i64 0),.nil,.d (.bool false)]:=by kernel_rfl
theorem z86:zeroCells Tryz.prog 86=some [.d (.int .i64 0),.d (.int .i64 0)]:=by kernel_rfl
theorem z89:zeroCells Tryz.prog 89=some [.d (.str ⟨#[]⟩),.d (.str ⟨#[]⟩),.d (.int .i64 0),.d (.int .i64 0),.nil,.d (.int .i64 0),.d (.int .i64 0),.d (.int .i64 0)]:=by kernel_rfl
theorem z92:zeroCells Tryz.prog 92=some [.d (.str ⟨#[]⟩),.d (.int .i64 0),.d (.int .i64 0)]:=by kernel_rfl
theorem z95:zeroCells Tryz.prog 95=some [.d (.str ⟨#[]⟩),.d (.str ⟨#[]⟩),.d (.int .i64 0),.nil,.d (.int .i64 0),.d (.int .i64 0),.d (.int .i64 0),.nil,.d (.str ⟨#[]⟩)]:=by kernel_rfl
theorem z99:zeroCells Tryz.prog 99=some [.d (.str ⟨#[]⟩),.d (.int .i64 0),.d (.int .i64 0)]:=by kernel_rfl
theorem laid_db : ∀ w, Go.Eng.r9 w → Go.Lib.TabIs Go.Proofs.Tryz.prog w "math/bits.deBruijn64tab" .u8 (Go.Lib.deBruijn64tab.map (fun (n : Nat) => (n : Int))) := fun _ h => h.1
theorem Jn : ∀ w, Go.Eng.r9 w → Go.Lib.TabIs Go.Proofs.Tryz.prog w "internal/strconv.uint64pow10" .u64 Go.Lib.pow10Tab := fun _ h => h.2.1
theorem Bg:∀w,Go.Eng.r9 w->(∃m,w.cell? ⟨0,0,none⟩=some (.int .i64 m)):=λ_ h=>h.2.2.1
theorem Lu:∀w,Go.Eng.r9 w->Go.Lib.Utf8Tabs 2 3 w:=λ_ h=>h.2.2.2
theorem db_g : Tryz.prog.globalNamed "math/bits.deBruijn64tab" = some 7 := by kernel_rfl
end Go.Proofs.YtnkgapmhkhcanabGreatDoor.Law

