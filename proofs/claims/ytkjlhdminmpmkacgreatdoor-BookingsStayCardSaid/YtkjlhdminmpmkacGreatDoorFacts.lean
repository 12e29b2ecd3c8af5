/-
  Closed facts on the types and functions of the program.
-/
import Derived.Test.YtkjlhdminmpmkacGreatDoorProg
import Derived.Test.YtkjlhdminmpmkacGreatDoorEng5
open Go Go.Eng Go.Proofs
namespace Go.Proofs.YtkjlhdminmpmkacGreatDoor.Law
set_option maxRecDepth 100000
set_option linter.unusedVariables false
set_option maxHeartbeats 1000000
theorem Mt:bW Tryz.prog 102=true:=by kernel_rfl
theorem Bo:bW Tryz.prog 105=true:=by kernel_rfl
theorem PD:bW Tryz.prog 109=true:=by kernel_rfl
theorem yx:bW Tryz.prog 161=true:=by kernel_rfl
theorem lb_ {a b:Nat} (h:Nat.ble a b=true):a<=b:=Nat.le_of_ble_eq_true h
abbrev SL_:=List (Nat×V)
theorem ag184:bW Tryz.prog 184=true:=by kernel_rfl
theorem xu:bW Tryz.prog 22=false:=by kernel_rfl
theorem ag3:bW Tryz.prog 3=false:=by kernel_rfl
theorem ag33:bW Tryz.prog 33=false:=by kernel_rfl
theorem ag38:bW Tryz.prog 38=true:=by kernel_rfl
theorem AR:bW Tryz.prog 39=false:=by kernel_rfl
theorem ag4:bW Tryz.prog 4=false:=by kernel_rfl
theorem Dj:bW Tryz.prog 46=true:=by kernel_rfl
theorem vG:bW Tryz.prog 48=true:=by kernel_rfl
theorem ag54:bW Tryz.prog 54=true:=by kernel_rfl
theorem Db:bW Tryz.prog 57=true:=by kernel_rfl
theorem Ql:bW Tryz.prog 64=true:=by kernel_rfl
theorem y8:bW Tryz.prog 78=false:=by kernel_rfl
theorem ag9:bW Tryz.prog 9=false:=by kernel_rfl
theorem JL:bW Tryz.prog 92=true:=by kernel_rfl
theorem NA:bW Tryz.prog 93=false:=by kernel_rfl
theorem Ov:bW Tryz.prog 98=true:=by kernel_rfl
theorem Mq:dX Tryz.prog 161=16:=by kernel_rfl
theorem by184:dX Tryz.prog 184=16:=by kernel_rfl
theorem by22:dX Tryz.prog 22=24:=by kernel_rfl
theorem by3:dX Tryz.prog 3=8:=by kernel_rfl
theorem by38:dX Tryz.prog 38=40:=by kernel_rfl
theorem by46:dX Tryz.prog 46=16:=by kernel_rfl
theorem by48:dX Tryz.prog 48=96:=by kernel_rfl
theorem by54:dX Tryz.prog 54=32:=by kernel_rfl
theorem by57:dX Tryz.prog 57=64:=by kernel_rfl
theorem by64:dX Tryz.prog 64=48:=by kernel_rfl
theorem by9:dX Tryz.prog 9=16:=by kernel_rfl
theorem by92:dX Tryz.prog 92=32:=by kernel_rfl
theorem CQ:bI Tryz.prog 156=some 161:=by kernel_rfl
theorem MZ:bI Tryz.prog 167=some 184:=by kernel_rfl
theorem Lh:bI Tryz.prog 22=some 3:=by kernel_rfl
theorem el26:bI Tryz.prog 26=some 57:=by kernel_rfl
theorem NT:bI Tryz.prog 28=some 48:=by kernel_rfl
theorem el30:bI Tryz.prog 30=some 64:=by kernel_rfl
theorem el32:bI Tryz.prog 32=some 38:=by kernel_rfl
theorem Jo:bI Tryz.prog 39=some 9:=by kernel_rfl
theorem el49:bI Tryz.prog 49=some 54:=by kernel_rfl
theorem el78:bI Tryz.prog 78=some 22:=by kernel_rfl
theorem Md:bI Tryz.prog 93=some 92:=by kernel_rfl
theorem el94:bI Tryz.prog 94=some 46:=by kernel_rfl
theorem Gr:(bI Tryz.prog 103).bind (szT Tryz.prog)=some 3:=by kernel_rfl
theorem Pz:(bI Tryz.prog 129).bind (szT Tryz.prog)=some 13:=by kernel_rfl
theorem Ng:(bI Tryz.prog 135).bind (szT Tryz.prog)=some 9:=by kernel_rfl
theorem O4:(bI Tryz.prog 136).bind (szT Tryz.prog)=some 3:=by kernel_rfl
theorem es138:(bI Tryz.prog 138).bind (szT Tryz.prog)=some 1:=by kernel_rfl
theorem mK:(bI Tryz.prog 156).bind (szT Tryz.prog)=some 2:=by kernel_rfl
theorem Ay:(bI Tryz.prog 167).bind (szT Tryz.prog)=some 2:=by kernel_rfl
theorem OW:(bI Tryz.prog 174).bind (szT Tryz.prog)=some 1:=by kernel_rfl
theorem gq:(bI Tryz.prog 22).bind (szT Tryz.prog)=some 1:=by kernel_rfl
theorem Dr:(bI Tryz.prog 26).bind (szT Tryz.prog)=some 5:=by kernel_rfl
theorem Am:(bI Tryz.prog 28).bind (szT Tryz.prog)=some 8:=by kernel_rfl
theorem PH:(bI Tryz.prog 30).bind (szT Tryz.prog)=some 4:=by kernel_rfl
theorem es32:(bI Tryz.prog 32).bind (szT Tryz.prog)=some 3:=by kernel_rfl
theorem pz:(bI Tryz.prog 39).bind (szT Tryz.prog)=some 1:=by kernel_rfl
theorem es49:(bI Tryz.prog 49).bind (szT Tryz.prog)=some 3:=by kernel_rfl
theorem Aw:(bI Tryz.prog 78).bind (szT Tryz.prog)=some 1:=by kernel_rfl
theorem I8:(bI Tryz.prog 93).bind (szT Tryz.prog)=some 4:=by kernel_rfl
theorem es94:(bI Tryz.prog 94).bind (szT Tryz.prog)=some 2:=by kernel_rfl
theorem ez103:((bI Tryz.prog 103).bind (zeroCells Tryz.prog)).isSome=true:=by kernel_rfl
theorem ez129:((bI Tryz.prog 129).bind (zeroCells Tryz.prog)).isSome=true:=by kernel_rfl
theorem ez135:((bI Tryz.prog 135).bind (zeroCells Tryz.prog)).isSome=true:=by kernel_rfl
theorem ez136:((bI Tryz.prog 136).bind (zeroCells Tryz.prog)).isSome=true:=by kernel_rfl
theorem ez138:((bI Tryz.prog 138).bind (zeroCells Tryz.prog)).isSome=true:=by kernel_rfl
theorem Nh:((bI Tryz.prog 156).bind (zeroCells Tryz.prog)).isSome=true:=by kernel_rfl
theorem ez167:((bI Tryz.prog 167).bind (zeroCells Tryz.prog)).isSome=true:=by kernel_rfl
theorem ez174:((bI Tryz.prog 174).bind (zeroCells Tryz.prog)).isSome=true:=by kernel_rfl
theorem zJ:((bI Tryz.prog 22).bind (zeroCells Tryz.prog)).isSome=true:=by kernel_rfl
theorem ez26:((bI Tryz.prog 26).bind (zeroCells Tryz.prog)).isSome=true:=by kernel_rfl
theorem Oz:((bI Tryz.prog 28).bind (zeroCells Tryz.prog)).isSome=true:=by kernel_rfl
theorem ez30:((bI Tryz.prog 30).bind (zeroCells Tryz.prog)).isSome=true:=by kernel_rfl
theorem ez32:((bI Tryz.prog 32).bind (zeroCells Tryz.prog)).isSome=true:=by kernel_rfl
theorem BB:((bI Tryz.prog 39).bind (zeroCells Tryz.prog)).isSome=true:=by kernel_rfl
theorem ez49:((bI Tryz.prog 49).bind (zeroCells Tryz.prog)).isSome=true:=by kernel_rfl
theorem ez93:((bI Tryz.prog 93).bind (zeroCells Tryz.prog)).isSome=true:=by kernel_rfl
theorem ez94:((bI Tryz.prog 94).bind (zeroCells Tryz.prog)).isSome=true:=by kernel_rfl
theorem hb10:aH Tryz.prog 10=true:=by kernel_rfl
theorem hb101:aH Tryz.prog 101=true:=by kernel_rfl
theorem hb103:aH Tryz.prog 103=true:=by kernel_rfl
theorem hb104:aH Tryz.prog 104=true:=by kernel_rfl
theorem hb105:aH Tryz.prog 105=true:=by kernel_rfl
theorem hb106:aH Tryz.prog 106=true:=by kernel_rfl
theorem hb107:aH Tryz.prog 107=true:=by kernel_rfl
theorem hb108:aH Tryz.prog 108=true:=by kernel_rfl
theorem hb109:aH Tryz.prog 109=true:=by kernel_rfl
theorem hb11:aH Tryz.prog 11=true:=by kernel_rfl
theorem hb110:aH Tryz.prog 110=true:=by kernel_rfl
theorem hb111:aH Tryz.prog 111=true:=by kernel_rfl
theorem hb112:aH Tryz.prog 112=true:=by kernel_rfl
theorem hb12:aH Tryz.prog 12=true:=by kernel_rfl
theorem hb122:aH Tryz.prog 122=true:=by kernel_rfl
theorem hb126:aH Tryz.prog 126=true:=by kernel_rfl
theorem hb127:aH Tryz.prog 127=true:=by kernel_rfl
theorem hb128:aH Tryz.prog 128=true:=by kernel_rfl
theorem hb129:aH Tryz.prog 129=true:=by kernel_rfl
theorem hb13:aH Tryz.prog 13=true:=by kernel_rfl
theorem hb130:aH Tryz.prog 130=true:=by kernel_rfl
theorem hb131:aH Tryz.prog 131=true:=by kernel_rfl
theorem hb132:aH Tryz.prog 132=true:=by kernel_rfl
theorem hb133:aH Tryz.prog 133=true:=by kernel_rfl
theorem hb134:aH Tryz.prog 134=true:=by kernel_rfl
theorem hb14:aH Tryz.prog 14=true:=by kernel_rfl
theorem Na:aH Tryz.prog 144=true:=by kernel_rfl
theorem hb145:aH Tryz.prog 145=true:=by kernel_rfl
theorem hb15:aH Tryz.prog 15=true:=by kernel_rfl
theorem hb153:aH Tryz.prog 153=true:=by kernel_rfl
theorem hb154:aH Tryz.prog 154=true:=by kernel_rfl
theorem hb155:aH Tryz.prog 155=true:=by kernel_rfl
theorem hb156:aH Tryz.prog 156=true:=by kernel_rfl
theorem hb16:aH Tryz.prog 16=true:=by kernel_rfl
theorem hb167:aH Tryz.prog 167=true:=by kernel_rfl
theorem hb168:aH Tryz.prog 168=true:=by kernel_rfl
theorem hb17:aH Tryz.prog 17=true:=by kernel_rfl
theorem hb18:aH Tryz.prog 18=true:=by kernel_rfl
theorem hb19:aH Tryz.prog 19=true:=by kernel_rfl
theorem hb20:aH Tryz.prog 20=true:=by kernel_rfl
theorem NP:aH Tryz.prog 21=true:=by kernel_rfl
theorem IX:aH Tryz.prog 22=true:=by kernel_rfl
theorem hb23:aH Tryz.prog 23=true:=by kernel_rfl
theorem hb24:aH Tryz.prog 24=true:=by kernel_rfl
theorem hb25:aH Tryz.prog 25=true:=by kernel_rfl
theorem hb26:aH Tryz.prog 26=true:=by kernel_rfl
theorem hb27:aH Tryz.prog 27=true:=by kernel_rfl
theorem hb28:aH Tryz.prog 28=true:=by kernel_rfl
theorem hb29:aH Tryz.prog 29=true:=by kernel_rfl
theorem hb30:aH Tryz.prog 30=true:=by kernel_rfl
theorem hb31:aH Tryz.prog 31=true:=by kernel_rfl
theorem hb32:aH Tryz.prog 32=true:=by kernel_rfl
theorem hb33:aH Tryz.prog 33=true:=by kernel_rfl
theorem hb34:aH Tryz.prog 34=true:=by kernel_rfl
theorem hb35:aH Tryz.prog 35=true:=by kernel_rfl
theorem hb36:aH Tryz.prog 36=true:=by kernel_rfl
theorem hb37:aH Tryz.prog 37=true:=by kernel_rfl
theorem hb38:aH Tryz.prog 38=true:=by kernel_rfl
theorem hb39:aH Tryz.prog 39=true:=by kernel_rfl
theorem hb4:aH Tryz.prog 4=true:=by kernel_rfl
theorem hb40:aH Tryz.prog 40=true:=by kernel_rfl
theorem hb41:aH Tryz.prog 41=true:=by kernel_rfl
theorem hb42:aH Tryz.prog 42=true:=by kernel_rfl
theorem hb43:aH Tryz.prog 43=true:=by kernel_rfl
theorem hb44:aH Tryz.prog 44=true:=by kernel_rfl
theorem hb45:aH Tryz.prog 45=true:=by kernel_rfl
theorem hb46:aH Tryz.prog 46=true:=by kernel_rfl
theorem hb47:aH Tryz.prog 47=true:=by kernel_rfl
theorem hb48:aH Tryz.prog 48=true:=by kernel_rfl
theorem hb49:aH Tryz.prog 49=true:=by kernel_rfl
theorem hb5:aH Tryz.prog 5=true:=by kernel_rfl
theorem hb50:aH Tryz.prog 50=true:=by kernel_rfl
theorem hb51:aH Tryz.prog 51=true:=by kernel_rfl
theorem AQ:aH Tryz.prog 52=true:=by kernel_rfl
theorem hb53:aH Tryz.prog 53=true:=by kernel_rfl
theorem rC:aH Tryz.prog 54=true:=by kernel_rfl
theorem hb55:aH Tryz.prog 55=true:=by kernel_rfl
theorem hb56:aH Tryz.prog 56=true:=by kernel_rfl
theorem IU:aH Tryz.prog 57=true:=by kernel_rfl
theorem hb58:aH Tryz.prog 58=true:=by kernel_rfl
theorem hb59:aH Tryz.prog 59=true:=by kernel_rfl
theorem hb6:aH Tryz.prog 6=true:=by kernel_rfl
theorem hb60:aH Tryz.prog 60=true:=by kernel_rfl
theorem hb61:aH Tryz.prog 61=true:=by kernel_rfl
theorem hb62:aH Tryz.prog 62=true:=by kernel_rfl
theorem hb63:aH Tryz.prog 63=true:=by kernel_rfl
theorem hb64:aH Tryz.prog 64=true:=by kernel_rfl
theorem hb65:aH Tryz.prog 65=true:=by kernel_rfl
theorem hb66:aH Tryz.prog 66=true:=by kernel_rfl
theorem hb67:aH Tryz.prog 67=true:=by kernel_rfl
theorem hb68:aH Tryz.prog 68=true:=by kernel_rfl
theorem hb69:aH Tryz.prog 69=true:=by kernel_rfl
theorem hb7:aH Tryz.prog 7=true:=by kernel_rfl
theorem hb70:aH Tryz.prog 70=true:=by kernel_rfl
theorem hb71:aH Tryz.prog 71=true:=by kernel_rfl
theorem hb72:aH Tryz.prog 72=true:=by kernel_rfl
theorem hb73:aH Tryz.prog 73=true:=by kernel_rfl
theorem hb74:aH Tryz.prog 74=true:=by kernel_rfl
theorem hb75:aH Tryz.prog 75=true:=by kernel_rfl
theorem hb79:aH Tryz.prog 79=true:=by kernel_rfl
theorem hb8:aH Tryz.prog 8=true:=by kernel_rfl
theorem hb80:aH Tryz.prog 80=true:=by kernel_rfl
theorem hb81:aH Tryz.prog 81=true:=by kernel_rfl
theorem hb82:aH Tryz.prog 82=true:=by kernel_rfl
theorem hb83:aH Tryz.prog 83=true:=by kernel_rfl
theorem hb84:aH Tryz.prog 84=true:=by kernel_rfl
theorem hb85:aH Tryz.prog 85=true:=by kernel_rfl
theorem hb86:aH Tryz.prog 86=true:=by kernel_rfl
theorem hb87:aH Tryz.prog 87=true:=by kernel_rfl
theorem hb88:aH Tryz.prog 88=true:=by kernel_rfl
theorem hb89:aH Tryz.prog 89=true:=by kernel_rfl
theorem hb9:aH Tryz.prog 9=true:=by kernel_rfl
theorem hb90:aH Tryz.prog 90=true:=by kernel_rfl
theorem hb91:aH Tryz.prog 91=true:=by kernel_rfl
theorem hb92:aH Tryz.prog 92=true:=by kernel_rfl
theorem hb93:aH Tryz.prog 93=true:=by kernel_rfl
theorem hb94:aH Tryz.prog 94=true:=by kernel_rfl
theorem hb95:aH Tryz.prog 95=true:=by kernel_rfl
theorem hb96:aH Tryz.prog 96=true:=by kernel_rfl
theorem hb97:aH Tryz.prog 97=true:=by kernel_rfl
theorem mt187:JM Tryz.prog 187=some (9,4):=by kernel_rfl
theorem nb165:aH Tryz.prog 165=false:=by kernel_rfl
theorem yK:bJ Tryz.prog 102 0=some (0,1):=by kernel_rfl
theorem Av:bJ Tryz.prog 102 1=some (1,1):=by kernel_rfl
theorem Bv:bJ Tryz.prog 102 2=some (2,1):=by kernel_rfl
theorem yJ:bJ Tryz.prog 105 0=some (0,1):=by kernel_rfl
theorem pl105_1:bJ Tryz.prog 105 1=some (1,1):=by kernel_rfl
theorem IP:bJ Tryz.prog 105 2=some (2,1):=by kernel_rfl
theorem DT:bJ Tryz.prog 105 3=some (3,1):=by kernel_rfl
theorem Ar:bJ Tryz.prog 105 4=some (4,1):=by kernel_rfl
theorem pl105_5:bJ Tryz.prog 105 5=some (5,1):=by kernel_rfl
theorem pl105_6:bJ Tryz.prog 105 6=some (6,1):=by kernel_rfl
theorem DC:bJ Tryz.prog 105 7=some (7,1):=by kernel_rfl
theorem Ia:bJ Tryz.prog 105 8=some (8,1):=by kernel_rfl
theorem Hr:bJ Tryz.prog 109 0=some (0,1):=by kernel_rfl
theorem IM:bJ Tryz.prog 109 1=some (1,1):=by kernel_rfl
theorem Hf:bJ Tryz.prog 109 2=some (2,1):=by kernel_rfl
theorem lY:bJ Tryz.prog 161 0=some (0,1):=by kernel_rfl
theorem su:bJ Tryz.prog 161 1=some (1,1):=by kernel_rfl
theorem uF:bJ Tryz.prog 184 0=some (0,1):=by kernel_rfl
theorem xh:bJ Tryz.prog 184 1=some (1,1):=by kernel_rfl
theorem Hq:bJ Tryz.prog 25 0=some (0,1):=by kernel_rfl
theorem DW:bJ Tryz.prog 25 1=some (1,1):=by kernel_rfl
theorem mF:bJ Tryz.prog 46 0=some (0,1):=by kernel_rfl
theorem mq:bJ Tryz.prog 46 1=some (1,1):=by kernel_rfl
theorem xe:bJ Tryz.prog 48 0=some (0,1):=by kernel_rfl
theorem KU:bJ Tryz.prog 48 1=some (1,1):=by kernel_rfl
theorem qZ:bJ Tryz.prog 48 2=some (2,2):=by kernel_rfl
theorem EC:bJ Tryz.prog 48 3=some (4,1):=by kernel_rfl
theorem zT:bJ Tryz.prog 48 4=some (5,1):=by kernel_rfl
theorem Me:bJ Tryz.prog 48 5=some (6,1):=by kernel_rfl
theorem P9:bJ Tryz.prog 48 6=some (7,1):=by kernel_rfl
theorem PS:bJ Tryz.prog 54 2=some (2,1):=by kernel_rfl
theorem Ad:bJ Tryz.prog 57 0=some (0,1):=by kernel_rfl
theorem EU:bJ Tryz.prog 57 1=some (1,2):=by kernel_rfl
theorem z8:bJ Tryz.prog 57 2=some (3,1):=by kernel_rfl
theorem Cc:bJ Tryz.prog 57 3=some (4,1):=by kernel_rfl
theorem pl64_0:bJ Tryz.prog 64 0=some (0,1):=by kernel_rfl
theorem PU:bJ Tryz.prog 64 1=some (1,1):=by kernel_rfl
theorem Jd:bJ Tryz.prog 64 2=some (2,1):=by kernel_rfl
theorem pl64_3:bJ Tryz.prog 64 3=some (3,1):=by kernel_rfl
theorem nM:bJ Tryz.prog 80 0=some (0,1):=by kernel_rfl
theorem pl80_1:bJ Tryz.prog 80 1=some (1,1):=by kernel_rfl
theorem Cs:bJ Tryz.prog 92 0=some (0,1):=by kernel_rfl
theorem yn:bJ Tryz.prog 92 1=some (1,1):=by kernel_rfl
theorem HV:bJ Tryz.prog 92 2=some (2,1):=by kernel_rfl
theorem EL:bJ Tryz.prog 92 3=some (3,1):=by kernel_rfl
theorem L6:bJ Tryz.prog 98 0=some (0,1):=by kernel_rfl
theorem pl98_1:bJ Tryz.prog 98 1=some (1,1):=by kernel_rfl
theorem pl98_10:bJ Tryz.prog 98 10=some (10,1):=by kernel_rfl
theorem pl98_11:bJ Tryz.prog 98 11=some (11,1):=by kernel_rfl
theorem pl98_12:bJ Tryz.prog 98 12=some (12,1):=by kernel_rfl
theorem pl98_2:bJ Tryz.prog 98 2=some (2,1):=by kernel_rfl
theorem Ik:bJ Tryz.prog 98 3=some (3,1):=by kernel_rfl
theorem IL:bJ Tryz.prog 98 4=some (4,1):=by kernel_rfl
theorem Pb:bJ Tryz.prog 98 5=some (5,1):=by kernel_rfl
theorem Qo:bJ Tryz.prog 98 6=some (6,1):=by kernel_rfl
theorem O9:bJ Tryz.prog 98 7=some (7,1):=by kernel_rfl
theorem Lr:bJ Tryz.prog 98 8=some (8,1):=by kernel_rfl
theorem Qb:bJ Tryz.prog 98 9=some (9,1):=by kernel_rfl
theorem GZ:szT Tryz.prog 102=some 3:=by kernel_rfl
theorem xy:szT Tryz.prog 105=some 9:=by kernel_rfl
theorem Nk:szT Tryz.prog 109=some 3:=by kernel_rfl
theorem oP:szT Tryz.prog 161=some 2:=by kernel_rfl
theorem F4:szT Tryz.prog 184=some 2:=by kernel_rfl
theorem uS:szT Tryz.prog 22=some 1:=by kernel_rfl
theorem sz3:szT Tryz.prog 3=some 1:=by kernel_rfl
theorem sz33:szT Tryz.prog 33=some 1:=by kernel_rfl
theorem sz38:szT Tryz.prog 38=some 3:=by kernel_rfl
theorem zf:szT Tryz.prog 39=some 1:=by kernel_rfl
theorem sz4:szT Tryz.prog 4=some 1:=by kernel_rfl
theorem xC:szT Tryz.prog 46=some 2:=by kernel_rfl
theorem oD:szT Tryz.prog 48=some 8:=by kernel_rfl
theorem Pj:szT Tryz.prog 54=some 3:=by kernel_rfl
theorem uq:szT Tryz.prog 57=some 5:=by kernel_rfl
theorem FU:szT Tryz.prog 64=some 4:=by kernel_rfl
theorem y9:szT Tryz.prog 78=some 1:=by kernel_rfl
theorem sz9:szT Tryz.prog 9=some 1:=by kernel_rfl
theorem x9:szT Tryz.prog 92=some 4:=by kernel_rfl
theorem NM:szT Tryz.prog 93=some 1:=by kernel_rfl
theorem KY:szT Tryz.prog 98=some 13:=by kernel_rfl
theorem OP:(Tryz.prog).underlying 103=some (.slice 102):=by kernel_rfl
theorem un129:(Tryz.prog).underlying 129=some (.slice 98):=by kernel_rfl
theorem OY:(Tryz.prog).underlying 135=some (.slice 105):=by kernel_rfl
theorem un136:(Tryz.prog).underlying 136=some (.slice 109):=by kernel_rfl
theorem un138:(Tryz.prog).underlying 138=some (.slice 33):=by kernel_rfl
theorem Kg:(Tryz.prog).underlying 139=some (.int .u64):=by kernel_rfl
theorem zk:(Tryz.prog).underlying 156=some (.slice 161):=by kernel_rfl
theorem OG:(Tryz.prog).underlying 167=some (.slice 184):=by kernel_rfl
theorem un174:(Tryz.prog).underlying 174=some (.slice 93):=by kernel_rfl
theorem un204:(Tryz.prog).underlying 204=some (.int .u64):=by kernel_rfl
theorem uT:(Tryz.prog).underlying 22=some (.slice 3):=by kernel_rfl
theorem Fa:(Tryz.prog).underlying 26=some (.slice 57):=by kernel_rfl
theorem BA:(Tryz.prog).underlying 28=some (.slice 48):=by kernel_rfl
theorem un3:(Tryz.prog).underlying 3=some (.int .i64):=by kernel_rfl
theorem Oj:(Tryz.prog).underlying 30=some (.slice 64):=by kernel_rfl
theorem un32:(Tryz.prog).underlying 32=some (.slice 38):=by kernel_rfl
theorem xq:(Tryz.prog).underlying 39=some (.slice 9):=by kernel_rfl
theorem un4:(Tryz.prog).underlying 4=some .bool:=by kernel_rfl
theorem un49:(Tryz.prog).underlying 49=some (.slice 54):=by kernel_rfl
theorem un5:(Tryz.prog).underlying 5=some (.int .u8):=by kernel_rfl
theorem un78:(Tryz.prog).underlying 78=some (.slice 22):=by kernel_rfl
theorem un9:(Tryz.prog).underlying 9=some .string:=by kernel_rfl
theorem Ca:(Tryz.prog).underlying 93=some (.slice 92):=by kernel_rfl
theorem un94:(Tryz.prog).underlying 94=some (.slice 46):=by kernel_rfl
theorem z102:zeroCells Tryz.prog 102=some [.d (.str ⟨#[]⟩),.d (.int .i64 0),.d (.int .i64 0)]:=by kernel_rfl
theorem z105:zeroCells Tryz.prog 105=some [.d (.str ⟨#[]⟩),.d (.str ⟨#[]⟩),.d (.int .i64 0),.nil,.d (.int .i64 0),.d (.int .i64 0),.d (.int .i64 0),.nil,.d (.str ⟨#[]⟩)]:=by kernel_rfl
theorem z109:zeroCells Tryz.prog 109=some [.d (.str ⟨#[]⟩),.d (.int .i64 0),.d (.int .i64 0)]:=by kernel_rfl
theorem Mh:zeroCells Tryz.prog 161=some [.d (.int .i64 0),.d (.int .i64 0)]:=by kernel_rfl
theorem z184:zeroCells Tryz.prog 184=some [.d (.int .i64 0),.d (.int .i64 0)]:=by kernel_rfl
theorem z22:zeroCells Tryz.prog 22=some [.nil]:=by kernel_rfl
theorem z3:zeroCells Tryz.prog 3=some [.d (.int .i64 0)]:=by kernel_rfl
theorem z38:zeroCells Tryz.prog 38=some [.d (.str ⟨#[]⟩),.d (.str ⟨#[]⟩),.d (.int .i64 0)]:=by kernel_rfl
theorem z46:zeroCells Tryz.prog 46=some [.d (.int .i64 0),.d (.int .i64 0)]:=by kernel_rfl
theorem z48:zeroCells Tryz.prog 48=some [.d (.str ⟨#[]⟩),.d (.str ⟨#[]⟩),.d (.int .i64 0),.d (.int .i64 0),.nil,.d (.int .i64 0),.d (.int .i64 0),.d (.int .i64 0)]:=by kernel_rfl
theorem z54:zeroCells Tryz.prog 54=some [.d (.str ⟨#[]⟩),.d (.int .i64 0),.d (.int .i64 0)]:=by kernel_rfl
theorem z57:zeroCells Tryz.prog 57=some [.d (.str ⟨#[]⟩),.d (.int .i64 0),.d (.int .i64 0),.d (.int .i64 0),.nil]:=by kernel_rfl
theorem z64:zeroCells Tryz.prog 64=some [.d (.str ⟨#[]⟩),.d (.str ⟨#[]⟩),.d (.int .i64 0),.d (.int .i64 0)]:=by kernel_rfl
theorem z9:zeroCells Tryz.prog 9=some [.d (.str ⟨#[]⟩)]:=by kernel_rfl
theorem z92:zeroCells Tryz.prog 92=some [.d (.int .i64 0),.d (.int .i64 0),.d (.int .i64 0),.d (.int .i64 0)]:=by kernel_rfl
theorem z98:zeroCells Tryz.prog 98=some [.d (.str ⟨#[]⟩),.d (.str ⟨#[]⟩),.d (.int .i64 0),.d (.int .i64 0),.d (.int .i64 0),.d (.int .i64 0),.d (.int .i64 0),.nil,.d (.int .i64 0),.d (.int .i64 0),.d (.int .i64 0),.nil,.d (.bool false)]:=by kernel_rfl
theorem LX : ∀ w, Go.Eng.zh w → Go.Lib.TabIs Go.Proofs.Tryz.prog w "internal/strconv.uint64pow10" .u64 Go.Lib.pow10Tab := fun _ h => h.1
theorem JE:∀w,Go.Eng.zh w->(∃m,w.cell? ⟨0,0,none⟩=some (.int .i64 m)):=λ_ h=>h.2.1
theorem NJ:∀w,Go.Eng.zh w->Go.Lib.Utf8Tabs 2 3 w:=λ_ h=>h.2.2
end Go.Proofs.YtkjlhdminmpmkacGreatDoor.Law

