/-
  Closed facts on the types and functions of the program.
-/
import Derived.Test.YtekmkepojbhafacGreatDoorProg
import Derived.Test.YtekmkepojbhafacGreatDoorEng5
open Go Go.Eng Go.Proofs
namespace Go.Proofs.YtekmkepojbhafacGreatDoor.Law
set_option maxRecDepth 100000
set_option linter.unusedVariables false
set_option maxHeartbeats 1000000
theorem xU:bX Tryz.prog 131=true:=by kernel_rfl
theorem lb_ {a b:Nat} (h:Nat.ble a b=true):a<=b:=Nat.le_of_ble_eq_true h
abbrev SL_:=List (Nat×V)
theorem ag158:bX Tryz.prog 158=true:=by kernel_rfl
theorem wF:bX Tryz.prog 22=false:=by kernel_rfl
theorem ag3:bX Tryz.prog 3=false:=by kernel_rfl
theorem ag30:bX Tryz.prog 30=false:=by kernel_rfl
theorem FI:bX Tryz.prog 39=true:=by kernel_rfl
theorem ag4:bX Tryz.prog 4=false:=by kernel_rfl
theorem Ez:bX Tryz.prog 40=false:=by kernel_rfl
theorem Ar:bX Tryz.prog 42=true:=by kernel_rfl
theorem ag44:bX Tryz.prog 44=true:=by kernel_rfl
theorem Ea:bX Tryz.prog 51=true:=by kernel_rfl
theorem yM:bX Tryz.prog 61=false:=by kernel_rfl
theorem Ja:bX Tryz.prog 66=true:=by kernel_rfl
theorem MV:bX Tryz.prog 67=false:=by kernel_rfl
theorem NF:bX Tryz.prog 72=true:=by kernel_rfl
theorem ag76:bX Tryz.prog 76=true:=by kernel_rfl
theorem Ie:bX Tryz.prog 79=true:=by kernel_rfl
theorem ag82:bX Tryz.prog 82=true:=by kernel_rfl
theorem ag84:bX Tryz.prog 84=false:=by kernel_rfl
theorem ag9:bX Tryz.prog 9=false:=by kernel_rfl
theorem LY:eP Tryz.prog 131=16:=by kernel_rfl
theorem by158:eP Tryz.prog 158=16:=by kernel_rfl
theorem by22:eP Tryz.prog 22=24:=by kernel_rfl
theorem by3:eP Tryz.prog 3=8:=by kernel_rfl
theorem by39:eP Tryz.prog 39=16:=by kernel_rfl
theorem by42:eP Tryz.prog 42=96:=by kernel_rfl
theorem by44:eP Tryz.prog 44=40:=by kernel_rfl
theorem by51:eP Tryz.prog 51=64:=by kernel_rfl
theorem by66:eP Tryz.prog 66=32:=by kernel_rfl
theorem by9:eP Tryz.prog 9=16:=by kernel_rfl
theorem Cm:bN Tryz.prog 126=some 131:=by kernel_rfl
theorem Ml:bN Tryz.prog 137=some 158:=by kernel_rfl
theorem KH:bN Tryz.prog 22=some 3:=by kernel_rfl
theorem el26:bN Tryz.prog 26=some 51:=by kernel_rfl
theorem el28:bN Tryz.prog 28=some 42:=by kernel_rfl
theorem el35:bN Tryz.prog 35=some 44:=by kernel_rfl
theorem el40:bN Tryz.prog 40=some 9:=by kernel_rfl
theorem el61:bN Tryz.prog 61=some 22:=by kernel_rfl
theorem Lh:bN Tryz.prog 67=some 66:=by kernel_rfl
theorem el68:bN Tryz.prog 68=some 39:=by kernel_rfl
theorem PN:(bN Tryz.prog 100).bind (szT Tryz.prog)=some 13:=by kernel_rfl
theorem MO:(bN Tryz.prog 108).bind (szT Tryz.prog)=some 9:=by kernel_rfl
theorem OV:(bN Tryz.prog 109).bind (szT Tryz.prog)=some 3:=by kernel_rfl
theorem es111:(bN Tryz.prog 111).bind (szT Tryz.prog)=some 1:=by kernel_rfl
theorem l7:(bN Tryz.prog 126).bind (szT Tryz.prog)=some 2:=by kernel_rfl
theorem AB:(bN Tryz.prog 137).bind (szT Tryz.prog)=some 2:=by kernel_rfl
theorem Oz:(bN Tryz.prog 148).bind (szT Tryz.prog)=some 1:=by kernel_rfl
theorem gK:(bN Tryz.prog 22).bind (szT Tryz.prog)=some 1:=by kernel_rfl
theorem FC:(bN Tryz.prog 26).bind (szT Tryz.prog)=some 5:=by kernel_rfl
theorem Bw:(bN Tryz.prog 28).bind (szT Tryz.prog)=some 8:=by kernel_rfl
theorem K8:(bN Tryz.prog 35).bind (szT Tryz.prog)=some 3:=by kernel_rfl
theorem uP:(bN Tryz.prog 40).bind (szT Tryz.prog)=some 1:=by kernel_rfl
theorem AC:(bN Tryz.prog 61).bind (szT Tryz.prog)=some 1:=by kernel_rfl
theorem HZ:(bN Tryz.prog 67).bind (szT Tryz.prog)=some 4:=by kernel_rfl
theorem es68:(bN Tryz.prog 68).bind (szT Tryz.prog)=some 2:=by kernel_rfl
theorem ND:(bN Tryz.prog 77).bind (szT Tryz.prog)=some 3:=by kernel_rfl
theorem ez100:((bN Tryz.prog 100).bind (zeroCells Tryz.prog)).isSome=true:=by kernel_rfl
theorem ez108:((bN Tryz.prog 108).bind (zeroCells Tryz.prog)).isSome=true:=by kernel_rfl
theorem ez109:((bN Tryz.prog 109).bind (zeroCells Tryz.prog)).isSome=true:=by kernel_rfl
theorem ez111:((bN Tryz.prog 111).bind (zeroCells Tryz.prog)).isSome=true:=by kernel_rfl
theorem LW:((bN Tryz.prog 126).bind (zeroCells Tryz.prog)).isSome=true:=by kernel_rfl
theorem ez137:((bN Tryz.prog 137).bind (zeroCells Tryz.prog)).isSome=true:=by kernel_rfl
theorem ez148:((bN Tryz.prog 148).bind (zeroCells Tryz.prog)).isSome=true:=by kernel_rfl
theorem CK:((bN Tryz.prog 22).bind (zeroCells Tryz.prog)).isSome=true:=by kernel_rfl
theorem ez26:((bN Tryz.prog 26).bind (zeroCells Tryz.prog)).isSome=true:=by kernel_rfl
theorem ez28:((bN Tryz.prog 28).bind (zeroCells Tryz.prog)).isSome=true:=by kernel_rfl
theorem ez35:((bN Tryz.prog 35).bind (zeroCells Tryz.prog)).isSome=true:=by kernel_rfl
theorem KJ:((bN Tryz.prog 40).bind (zeroCells Tryz.prog)).isSome=true:=by kernel_rfl
theorem ez67:((bN Tryz.prog 67).bind (zeroCells Tryz.prog)).isSome=true:=by kernel_rfl
theorem ez68:((bN Tryz.prog 68).bind (zeroCells Tryz.prog)).isSome=true:=by kernel_rfl
theorem ez77:((bN Tryz.prog 77).bind (zeroCells Tryz.prog)).isSome=true:=by kernel_rfl
theorem hb10:aI Tryz.prog 10=true:=by kernel_rfl
theorem hb104:aI Tryz.prog 104=true:=by kernel_rfl
theorem hb108:aI Tryz.prog 108=true:=by kernel_rfl
theorem hb109:aI Tryz.prog 109=true:=by kernel_rfl
theorem hb11:aI Tryz.prog 11=true:=by kernel_rfl
theorem hb110:aI Tryz.prog 110=true:=by kernel_rfl
theorem hb111:aI Tryz.prog 111=true:=by kernel_rfl
theorem hb112:aI Tryz.prog 112=true:=by kernel_rfl
theorem hb113:aI Tryz.prog 113=true:=by kernel_rfl
theorem hb114:aI Tryz.prog 114=true:=by kernel_rfl
theorem hb115:aI Tryz.prog 115=true:=by kernel_rfl
theorem KL:aI Tryz.prog 12=true:=by kernel_rfl
theorem MK:aI Tryz.prog 122=true:=by kernel_rfl
theorem hb123:aI Tryz.prog 123=true:=by kernel_rfl
theorem hb13:aI Tryz.prog 13=true:=by kernel_rfl
theorem hb131:aI Tryz.prog 131=true:=by kernel_rfl
theorem hb132:aI Tryz.prog 132=true:=by kernel_rfl
theorem hb133:aI Tryz.prog 133=true:=by kernel_rfl
theorem EQ:aI Tryz.prog 138=true:=by kernel_rfl
theorem hb139:aI Tryz.prog 139=true:=by kernel_rfl
theorem hb14:aI Tryz.prog 14=true:=by kernel_rfl
theorem hb140:aI Tryz.prog 140=true:=by kernel_rfl
theorem hb146:aI Tryz.prog 146=true:=by kernel_rfl
theorem hb15:aI Tryz.prog 15=true:=by kernel_rfl
theorem hb152:aI Tryz.prog 152=true:=by kernel_rfl
theorem hb156:aI Tryz.prog 156=true:=by kernel_rfl
theorem hb16:aI Tryz.prog 16=true:=by kernel_rfl
theorem hb17:aI Tryz.prog 17=true:=by kernel_rfl
theorem hb18:aI Tryz.prog 18=true:=by kernel_rfl
theorem hb19:aI Tryz.prog 19=true:=by kernel_rfl
theorem hb20:aI Tryz.prog 20=true:=by kernel_rfl
theorem hb21:aI Tryz.prog 21=true:=by kernel_rfl
theorem hb22:aI Tryz.prog 22=true:=by kernel_rfl
theorem hb23:aI Tryz.prog 23=true:=by kernel_rfl
theorem hb24:aI Tryz.prog 24=true:=by kernel_rfl
theorem hb25:aI Tryz.prog 25=true:=by kernel_rfl
theorem hb26:aI Tryz.prog 26=true:=by kernel_rfl
theorem hb27:aI Tryz.prog 27=true:=by kernel_rfl
theorem hb28:aI Tryz.prog 28=true:=by kernel_rfl
theorem hb29:aI Tryz.prog 29=true:=by kernel_rfl
theorem hb30:aI Tryz.prog 30=true:=by kernel_rfl
theorem hb31:aI Tryz.prog 31=true:=by kernel_rfl
theorem hb32:aI Tryz.prog 32=true:=by kernel_rfl
theorem hb33:aI Tryz.prog 33=true:=by kernel_rfl
theorem hb34:aI Tryz.prog 34=true:=by kernel_rfl
theorem hb35:aI Tryz.prog 35=true:=by kernel_rfl
theorem hb36:aI Tryz.prog 36=true:=by kernel_rfl
theorem hb37:aI Tryz.prog 37=true:=by kernel_rfl
theorem hb38:aI Tryz.prog 38=true:=by kernel_rfl
theorem hb39:aI Tryz.prog 39=true:=by kernel_rfl
theorem hb4:aI Tryz.prog 4=true:=by kernel_rfl
theorem hb40:aI Tryz.prog 40=true:=by kernel_rfl
theorem hb41:aI Tryz.prog 41=true:=by kernel_rfl
theorem qM:aI Tryz.prog 42=true:=by kernel_rfl
theorem hb43:aI Tryz.prog 43=true:=by kernel_rfl
theorem hb44:aI Tryz.prog 44=true:=by kernel_rfl
theorem hb45:aI Tryz.prog 45=true:=by kernel_rfl
theorem KZ:aI Tryz.prog 46=true:=by kernel_rfl
theorem hb47:aI Tryz.prog 47=true:=by kernel_rfl
theorem hb48:aI Tryz.prog 48=true:=by kernel_rfl
theorem hb49:aI Tryz.prog 49=true:=by kernel_rfl
theorem hb5:aI Tryz.prog 5=true:=by kernel_rfl
theorem hb50:aI Tryz.prog 50=true:=by kernel_rfl
theorem hb51:aI Tryz.prog 51=true:=by kernel_rfl
theorem hb52:aI Tryz.prog 52=true:=by kernel_rfl
theorem hb53:aI Tryz.prog 53=true:=by kernel_rfl
theorem hb54:aI Tryz.prog 54=true:=by kernel_rfl
theorem hb55:aI Tryz.prog 55=true:=by kernel_rfl
theorem CF:aI Tryz.prog 56=true:=by kernel_rfl
theorem hb57:aI Tryz.prog 57=true:=by kernel_rfl
theorem hb58:aI Tryz.prog 58=true:=by kernel_rfl
theorem hb59:aI Tryz.prog 59=true:=by kernel_rfl
theorem hb6:aI Tryz.prog 6=true:=by kernel_rfl
theorem hb60:aI Tryz.prog 60=true:=by kernel_rfl
theorem hb61:aI Tryz.prog 61=true:=by kernel_rfl
theorem hb62:aI Tryz.prog 62=true:=by kernel_rfl
theorem hb63:aI Tryz.prog 63=true:=by kernel_rfl
theorem hb64:aI Tryz.prog 64=true:=by kernel_rfl
theorem hb65:aI Tryz.prog 65=true:=by kernel_rfl
theorem hb66:aI Tryz.prog 66=true:=by kernel_rfl
theorem hb67:aI Tryz.prog 67=true:=by kernel_rfl
theorem hb68:aI Tryz.prog 68=true:=by kernel_rfl
theorem hb69:aI Tryz.prog 69=true:=by kernel_rfl
theorem hb7:aI Tryz.prog 7=true:=by kernel_rfl
theorem hb70:aI Tryz.prog 70=true:=by kernel_rfl
theorem hb71:aI Tryz.prog 71=true:=by kernel_rfl
theorem hb72:aI Tryz.prog 72=true:=by kernel_rfl
theorem hb73:aI Tryz.prog 73=true:=by kernel_rfl
theorem hb74:aI Tryz.prog 74=true:=by kernel_rfl
theorem hb75:aI Tryz.prog 75=true:=by kernel_rfl
theorem hb76:aI Tryz.prog 76=true:=by kernel_rfl
theorem hb77:aI Tryz.prog 77=true:=by kernel_rfl
theorem hb78:aI Tryz.prog 78=true:=by kernel_rfl
theorem hb79:aI Tryz.prog 79=true:=by kernel_rfl
theorem hb8:aI Tryz.prog 8=true:=by kernel_rfl
theorem hb80:aI Tryz.prog 80=true:=by kernel_rfl
theorem hb81:aI Tryz.prog 81=true:=by kernel_rfl
theorem hb82:aI Tryz.prog 82=true:=by kernel_rfl
theorem hb83:aI Tryz.prog 83=true:=by kernel_rfl
theorem hb84:aI Tryz.prog 84=true:=by kernel_rfl
theorem hb85:aI Tryz.prog 85=true:=by kernel_rfl
theorem hb87:aI Tryz.prog 87=true:=by kernel_rfl
theorem hb88:aI Tryz.prog 88=true:=by kernel_rfl
theorem hb89:aI Tryz.prog 89=true:=by kernel_rfl
theorem hb9:aI Tryz.prog 9=true:=by kernel_rfl
theorem hb90:aI Tryz.prog 90=true:=by kernel_rfl
theorem hb91:aI Tryz.prog 91=true:=by kernel_rfl
theorem hb92:aI Tryz.prog 92=true:=by kernel_rfl
theorem hb93:aI Tryz.prog 93=true:=by kernel_rfl
theorem hb94:aI Tryz.prog 94=true:=by kernel_rfl
theorem hb95:aI Tryz.prog 95=true:=by kernel_rfl
theorem hb96:aI Tryz.prog 96=true:=by kernel_rfl
theorem hb97:aI Tryz.prog 97=true:=by kernel_rfl
theorem mt161:He Tryz.prog 161=some (9,4):=by kernel_rfl
theorem M6:He Tryz.prog 84=some (9,3):=by kernel_rfl
theorem nb116:aI Tryz.prog 116=false:=by kernel_rfl
theorem nb162:aI Tryz.prog 162=false:=by kernel_rfl
theorem lM:bH Tryz.prog 131 0=some (0,1):=by kernel_rfl
theorem rP:bH Tryz.prog 131 1=some (1,1):=by kernel_rfl
theorem tQ:bH Tryz.prog 158 0=some (0,1):=by kernel_rfl
theorem wQ:bH Tryz.prog 158 1=some (1,1):=by kernel_rfl
theorem Iu:bH Tryz.prog 25 0=some (0,1):=by kernel_rfl
theorem EZ:bH Tryz.prog 25 1=some (1,1):=by kernel_rfl
theorem nS:bH Tryz.prog 39 0=some (0,1):=by kernel_rfl
theorem nN:bH Tryz.prog 39 1=some (1,1):=by kernel_rfl
theorem Bv:bH Tryz.prog 42 0=some (0,1):=by kernel_rfl
theorem OW:bH Tryz.prog 42 1=some (1,1):=by kernel_rfl
theorem xG:bH Tryz.prog 42 2=some (2,2):=by kernel_rfl
theorem Im:bH Tryz.prog 42 3=some (4,1):=by kernel_rfl
theorem zI:bH Tryz.prog 42 4=some (5,1):=by kernel_rfl
theorem KO:bH Tryz.prog 42 5=some (6,1):=by kernel_rfl
theorem pl42_6:bH Tryz.prog 42 6=some (7,1):=by kernel_rfl
theorem Bu:bH Tryz.prog 44 0=some (0,1):=by kernel_rfl
theorem Il:bH Tryz.prog 44 1=some (1,1):=by kernel_rfl
theorem H6:bH Tryz.prog 44 2=some (2,1):=by kernel_rfl
theorem Bq:bH Tryz.prog 51 0=some (0,1):=by kernel_rfl
theorem Lj:bH Tryz.prog 51 1=some (1,2):=by kernel_rfl
theorem KD:bH Tryz.prog 51 2=some (3,1):=by kernel_rfl
theorem Hr:bH Tryz.prog 51 3=some (4,1):=by kernel_rfl
theorem mZ:bH Tryz.prog 63 0=some (0,1):=by kernel_rfl
theorem pl63_1:bH Tryz.prog 63 1=some (1,1):=by kernel_rfl
theorem BN:bH Tryz.prog 66 0=some (0,1):=by kernel_rfl
theorem xJ:bH Tryz.prog 66 1=some (1,1):=by kernel_rfl
theorem Ih:bH Tryz.prog 66 2=some (2,1):=by kernel_rfl
theorem Fs:bH Tryz.prog 66 3=some (3,1):=by kernel_rfl
theorem LP:bH Tryz.prog 72 0=some (0,1):=by kernel_rfl
theorem pl72_1:bH Tryz.prog 72 1=some (1,1):=by kernel_rfl
theorem pl72_10:bH Tryz.prog 72 10=some (10,1):=by kernel_rfl
theorem pl72_11:bH Tryz.prog 72 11=some (11,1):=by kernel_rfl
theorem pl72_12:bH Tryz.prog 72 12=some (12,1):=by kernel_rfl
theorem pl72_2:bH Tryz.prog 72 2=some (2,1):=by kernel_rfl
theorem Ha:bH Tryz.prog 72 3=some (3,1):=by kernel_rfl
theorem G7:bH Tryz.prog 72 4=some (4,1):=by kernel_rfl
theorem Oe:bH Tryz.prog 72 5=some (5,1):=by kernel_rfl
theorem Ot:bH Tryz.prog 72 6=some (6,1):=by kernel_rfl
theorem OU:bH Tryz.prog 72 7=some (7,1):=by kernel_rfl
theorem Ll:bH Tryz.prog 72 8=some (8,1):=by kernel_rfl
theorem Pj:bH Tryz.prog 72 9=some (9,1):=by kernel_rfl
theorem Br:bH Tryz.prog 76 0=some (0,1):=by kernel_rfl
theorem ER:bH Tryz.prog 76 1=some (1,1):=by kernel_rfl
theorem Fh:bH Tryz.prog 76 2=some (2,1):=by kernel_rfl
theorem BR:bH Tryz.prog 79 0=some (0,1):=by kernel_rfl
theorem pl79_1:bH Tryz.prog 79 1=some (1,1):=by kernel_rfl
theorem K3:bH Tryz.prog 79 2=some (2,1):=by kernel_rfl
theorem IL:bH Tryz.prog 79 3=some (3,1):=by kernel_rfl
theorem Fv:bH Tryz.prog 79 4=some (4,1):=by kernel_rfl
theorem pl79_5:bH Tryz.prog 79 5=some (5,1):=by kernel_rfl
theorem pl79_6:bH Tryz.prog 79 6=some (6,1):=by kernel_rfl
theorem GL:bH Tryz.prog 79 7=some (7,1):=by kernel_rfl
theorem KS:bH Tryz.prog 79 8=some (8,1):=by kernel_rfl
theorem LJ:bH Tryz.prog 82 0=some (0,1):=by kernel_rfl
theorem K4:bH Tryz.prog 82 1=some (1,1):=by kernel_rfl
theorem Lg:bH Tryz.prog 82 2=some (2,1):=by kernel_rfl
theorem oo:szT Tryz.prog 131=some 2:=by kernel_rfl
theorem Gu:szT Tryz.prog 158=some 2:=by kernel_rfl
theorem uB:szT Tryz.prog 22=some 1:=by kernel_rfl
theorem sz3:szT Tryz.prog 3=some 1:=by kernel_rfl
theorem sz30:szT Tryz.prog 30=some 1:=by kernel_rfl
theorem yP:szT Tryz.prog 39=some 2:=by kernel_rfl
theorem sz4:szT Tryz.prog 4=some 1:=by kernel_rfl
theorem Ba:szT Tryz.prog 40=some 1:=by kernel_rfl
theorem uC:szT Tryz.prog 42=some 8:=by kernel_rfl
theorem LG:szT Tryz.prog 44=some 3:=by kernel_rfl
theorem xS:szT Tryz.prog 51=some 5:=by kernel_rfl
theorem yQ:szT Tryz.prog 61=some 1:=by kernel_rfl
theorem xI:szT Tryz.prog 66=some 4:=by kernel_rfl
theorem NG:szT Tryz.prog 67=some 1:=by kernel_rfl
theorem Lx:szT Tryz.prog 72=some 13:=by kernel_rfl
theorem NH:szT Tryz.prog 76=some 3:=by kernel_rfl
theorem CP:szT Tryz.prog 79=some 9:=by kernel_rfl
theorem sz82:szT Tryz.prog 82=some 3:=by kernel_rfl
theorem Nc:szT Tryz.prog 84=some 1:=by kernel_rfl
theorem sz9:szT Tryz.prog 9=some 1:=by kernel_rfl
theorem un100:(Tryz.prog).underlying 100=some (.slice 72):=by kernel_rfl
theorem Pf:(Tryz.prog).underlying 108=some (.slice 79):=by kernel_rfl
theorem un109:(Tryz.prog).underlying 109=some (.slice 82):=by kernel_rfl
theorem un111:(Tryz.prog).underlying 111=some (.slice 30):=by kernel_rfl
theorem AL:(Tryz.prog).underlying 120=some (.int .u64):=by kernel_rfl
theorem y7:(Tryz.prog).underlying 126=some (.slice 131):=by kernel_rfl
theorem OY:(Tryz.prog).underlying 137=some (.slice 158):=by kernel_rfl
theorem un148:(Tryz.prog).underlying 148=some (.slice 67):=by kernel_rfl
theorem AX:(Tryz.prog).underlying 174=some (.int .u64):=by kernel_rfl
theorem u7:(Tryz.prog).underlying 22=some (.slice 3):=by kernel_rfl
theorem Jc:(Tryz.prog).underlying 26=some (.slice 51):=by kernel_rfl
theorem FJ:(Tryz.prog).underlying 28=some (.slice 42):=by kernel_rfl
theorem un3:(Tryz.prog).underlying 3=some (.int .i64):=by kernel_rfl
theorem un35:(Tryz.prog).underlying 35=some (.slice 44):=by kernel_rfl
theorem un4:(Tryz.prog).underlying 4=some .bool:=by kernel_rfl
theorem Ac:(Tryz.prog).underlying 40=some (.slice 9):=by kernel_rfl
theorem un5:(Tryz.prog).underlying 5=some (.int .u8):=by kernel_rfl
theorem un61:(Tryz.prog).underlying 61=some (.slice 22):=by kernel_rfl
theorem Be:(Tryz.prog).underlying 67=some (.slice 66):=by kernel_rfl
theorem un68:(Tryz.prog).underlying 68=some (.slice 39):=by kernel_rfl
theorem un77:(Tryz.prog).underlying 77=some (.slice 76):=by kernel_rfl
theorem un9:(Tryz.prog).underlying 9=some .string:=by kernel_rfl
theorem z131:zeroCells Tryz.prog 131=some [.d (.int .i64 0),.d (.int .i64 0)]:=by kernel_rfl
theorem z158:zeroCells Tryz.prog 158=some [.d (.int .i64 0),.d (.int .i64 0)]:=by kernel_rfl
theorem z22:zeroCells Tryz.prog 22=some [.nil]:=by kernel_rfl
theorem z3:zeroCells Tryz.prog 3=some [.d (.int .i64 0)]:=by kernel_rfl
theorem z39:zeroCells Tryz.prog 39=some [.d (.int .i64 0),.d (.int .i64 0)]:=by kernel_rfl
theorem z42:zeroCells Tryz.prog 42=some [.d (.str ⟨#[]⟩),.d (.str ⟨#[]⟩),.d (.int .i64 0),.d (.int .i64 0),.nil,.d (.int .i64 0),.d (.int .i64 0),.d (.int .i64 0)]:=by kernel_rfl
theorem z44:zeroCells Tryz.prog 44=some [.d (.str ⟨#[]⟩),.d (.str ⟨#[]⟩),.d (.int .i64 0)]:=by kernel_rfl
theorem z51:zeroCells Tryz.prog 51=some [.d (.str ⟨#[]⟩),.d (.int .i64 0),.d (.int .i64 0),.d (.int .i64 0),.nil]:=by kernel_rfl
theorem z66:zeroCells Tryz.prog 66=some [.d (.int .i64 0),.d (.int .i64 0),.d (.int .i64 0),.d (.int .i64 0)]:=by kernel_rfl
theorem z72:zeroCells Tryz.prog 72=some [.d (.str ⟨#[]⟩),.d (.str ⟨#[]⟩),.d (.int .i64 0),.d (.int .i64 0),.d (.int .i64 0),.d (.int .i64 0),.d (.int .i64 0),.nil,.d (.int .i64 0),.d (.int .i64 0),.d (.int .i64 0),.nil,.d (.bool false)]:=by kernel_rfl
theorem z76:zeroCells Tryz.prog 76=some [.d (.str ⟨#[]⟩),.d (.int .i64 0),.d (.int .i64 0)]:=by kernel_rfl
theorem z79:zeroCells Tryz.prog 79=some [.d (.str ⟨#[]⟩),.d (.str ⟨#[]⟩),.d (.int .i64 0),.nil,.d (.int .i64 0),.d (.int .i64 0),.d (.int .i64 0),.nil,.d (.str ⟨#[]⟩)]:=by kernel_rfl
theorem z82:zeroCells Tryz.prog 82=some [.d (.str ⟨#[]⟩),.d (.int .i64 0),.d (.int .i64 0)]:=by kernel_rfl
theorem z84:zeroCells Tryz.prog 84=some [.nilm]:=by kernel_rfl
theorem z9:zeroCells Tryz.prog 9=some [.d (.str ⟨#[]⟩)]:=by kernel_rfl
end Go.Proofs.YtekmkepojbhafacGreatDoor.Law

