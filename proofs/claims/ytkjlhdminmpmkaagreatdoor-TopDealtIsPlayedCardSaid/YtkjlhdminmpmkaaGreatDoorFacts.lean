/-
  Closed facts on the types and functions of the program.
-/
import Derived.Test.YtkjlhdminmpmkaaGreatDoorProg
import Derived.Test.YtkjlhdminmpmkaaGreatDoorEng5
open Go Go.Eng Go.Proofs
namespace Go.Proofs.YtkjlhdminmpmkaaGreatDoor.Law
set_option maxRecDepth 100000
set_option linter.unusedVariables false
set_option maxHeartbeats 1000000
theorem ab207:yH Tryz.prog 207=some 24:=by kernel_rfl
theorem Cq:yH Tryz.prog 228=some 65:=by kernel_rfl
theorem xG:bT Tryz.prog 144=true:=by kernel_rfl
theorem lb_ {a b:Nat} (h:Nat.ble a b=true):a<=b:=Nat.le_of_ble_eq_true h
abbrev SL_:=List (Nat×V)
theorem ag155:bT Tryz.prog 155=true:=by kernel_rfl
theorem wo:bT Tryz.prog 22=false:=by kernel_rfl
theorem ag3:bT Tryz.prog 3=false:=by kernel_rfl
theorem Gf:bT Tryz.prog 37=true:=by kernel_rfl
theorem M6:bT Tryz.prog 38=false:=by kernel_rfl
theorem ag4:bT Tryz.prog 4=false:=by kernel_rfl
theorem JJ:bT Tryz.prog 40=true:=by kernel_rfl
theorem ag42:bT Tryz.prog 42=true:=by kernel_rfl
theorem IV:bT Tryz.prog 44=true:=by kernel_rfl
theorem ag51:bT Tryz.prog 51=true:=by kernel_rfl
theorem ag56:bT Tryz.prog 56=true:=by kernel_rfl
theorem FM:bT Tryz.prog 58=true:=by kernel_rfl
theorem yK:bT Tryz.prog 70=false:=by kernel_rfl
theorem QA:bT Tryz.prog 76=true:=by kernel_rfl
theorem ag77:bT Tryz.prog 77=false:=by kernel_rfl
theorem ag81:bT Tryz.prog 81=true:=by kernel_rfl
theorem OB:bT Tryz.prog 87=true:=by kernel_rfl
theorem ag9:bT Tryz.prog 9=false:=by kernel_rfl
theorem Q8:bT Tryz.prog 98=true:=by kernel_rfl
theorem Ng:dN Tryz.prog 144=16:=by kernel_rfl
theorem by155:dN Tryz.prog 155=16:=by kernel_rfl
theorem by22:dN Tryz.prog 22=24:=by kernel_rfl
theorem by3:dN Tryz.prog 3=8:=by kernel_rfl
theorem by37:dN Tryz.prog 37=16:=by kernel_rfl
theorem by40:dN Tryz.prog 40=64:=by kernel_rfl
theorem by42:dN Tryz.prog 42=40:=by kernel_rfl
theorem by44:dN Tryz.prog 44=72:=by kernel_rfl
theorem by51:dN Tryz.prog 51=48:=by kernel_rfl
theorem by56:dN Tryz.prog 56=32:=by kernel_rfl
theorem by58:dN Tryz.prog 58=96:=by kernel_rfl
theorem by76:dN Tryz.prog 76=32:=by kernel_rfl
theorem by9:dN Tryz.prog 9=16:=by kernel_rfl
theorem by98:dN Tryz.prog 98=16:=by kernel_rfl
theorem Nc:bD Tryz.prog 124=some 155:=by kernel_rfl
theorem Ct:bD Tryz.prog 139=some 144:=by kernel_rfl
theorem Bh:bD Tryz.prog 22=some 3:=by kernel_rfl
theorem el26:bD Tryz.prog 26=some 40:=by kernel_rfl
theorem el28:bD Tryz.prog 28=some 58:=by kernel_rfl
theorem el30:bD Tryz.prog 30=some 42:=by kernel_rfl
theorem el35:bD Tryz.prog 35=some 44:=by kernel_rfl
theorem el38:bD Tryz.prog 38=some 9:=by kernel_rfl
theorem el47:bD Tryz.prog 47=some 51:=by kernel_rfl
theorem el52:bD Tryz.prog 52=some 56:=by kernel_rfl
theorem el70:bD Tryz.prog 70=some 22:=by kernel_rfl
theorem LD:bD Tryz.prog 77=some 76:=by kernel_rfl
theorem el83:bD Tryz.prog 83=some 37:=by kernel_rfl
theorem el94:bD Tryz.prog 94=some 98:=by kernel_rfl
theorem PO:(bD Tryz.prog 114).bind (szT Tryz.prog)=some 13:=by kernel_rfl
theorem Ab:(bD Tryz.prog 124).bind (szT Tryz.prog)=some 2:=by kernel_rfl
theorem mG:(bD Tryz.prog 139).bind (szT Tryz.prog)=some 2:=by kernel_rfl
theorem Rx:(bD Tryz.prog 168).bind (szT Tryz.prog)=some 1:=by kernel_rfl
theorem ic:(bD Tryz.prog 22).bind (szT Tryz.prog)=some 1:=by kernel_rfl
theorem LK:(bD Tryz.prog 26).bind (szT Tryz.prog)=some 5:=by kernel_rfl
theorem F8:(bD Tryz.prog 28).bind (szT Tryz.prog)=some 8:=by kernel_rfl
theorem es30:(bD Tryz.prog 30).bind (szT Tryz.prog)=some 3:=by kernel_rfl
theorem Au:(bD Tryz.prog 35).bind (szT Tryz.prog)=some 6:=by kernel_rfl
theorem wW:(bD Tryz.prog 38).bind (szT Tryz.prog)=some 1:=by kernel_rfl
theorem QX:(bD Tryz.prog 47).bind (szT Tryz.prog)=some 4:=by kernel_rfl
theorem es52:(bD Tryz.prog 52).bind (szT Tryz.prog)=some 3:=by kernel_rfl
theorem zY:(bD Tryz.prog 70).bind (szT Tryz.prog)=some 1:=by kernel_rfl
theorem Pt:(bD Tryz.prog 77).bind (szT Tryz.prog)=some 4:=by kernel_rfl
theorem Po:(bD Tryz.prog 82).bind (szT Tryz.prog)=some 3:=by kernel_rfl
theorem es83:(bD Tryz.prog 83).bind (szT Tryz.prog)=some 2:=by kernel_rfl
theorem IQ:(bD Tryz.prog 94).bind (szT Tryz.prog)=some 2:=by kernel_rfl
theorem ez114:((bD Tryz.prog 114).bind (zeroCells Tryz.prog)).isSome=true:=by kernel_rfl
theorem ez124:((bD Tryz.prog 124).bind (zeroCells Tryz.prog)).isSome=true:=by kernel_rfl
theorem Nw:((bD Tryz.prog 139).bind (zeroCells Tryz.prog)).isSome=true:=by kernel_rfl
theorem ez168:((bD Tryz.prog 168).bind (zeroCells Tryz.prog)).isSome=true:=by kernel_rfl
theorem AV:((bD Tryz.prog 22).bind (zeroCells Tryz.prog)).isSome=true:=by kernel_rfl
theorem ez26:((bD Tryz.prog 26).bind (zeroCells Tryz.prog)).isSome=true:=by kernel_rfl
theorem ez28:((bD Tryz.prog 28).bind (zeroCells Tryz.prog)).isSome=true:=by kernel_rfl
theorem ez30:((bD Tryz.prog 30).bind (zeroCells Tryz.prog)).isSome=true:=by kernel_rfl
theorem ez35:((bD Tryz.prog 35).bind (zeroCells Tryz.prog)).isSome=true:=by kernel_rfl
theorem LY:((bD Tryz.prog 38).bind (zeroCells Tryz.prog)).isSome=true:=by kernel_rfl
theorem ez47:((bD Tryz.prog 47).bind (zeroCells Tryz.prog)).isSome=true:=by kernel_rfl
theorem ez52:((bD Tryz.prog 52).bind (zeroCells Tryz.prog)).isSome=true:=by kernel_rfl
theorem ez77:((bD Tryz.prog 77).bind (zeroCells Tryz.prog)).isSome=true:=by kernel_rfl
theorem ez82:((bD Tryz.prog 82).bind (zeroCells Tryz.prog)).isSome=true:=by kernel_rfl
theorem ez83:((bD Tryz.prog 83).bind (zeroCells Tryz.prog)).isSome=true:=by kernel_rfl
theorem ez94:((bD Tryz.prog 94).bind (zeroCells Tryz.prog)).isSome=true:=by kernel_rfl
theorem hb10:aM Tryz.prog 10=true:=by kernel_rfl
theorem hb100:aM Tryz.prog 100=true:=by kernel_rfl
theorem hb101:aM Tryz.prog 101=true:=by kernel_rfl
theorem hb102:aM Tryz.prog 102=true:=by kernel_rfl
theorem hb103:aM Tryz.prog 103=true:=by kernel_rfl
theorem hb104:aM Tryz.prog 104=true:=by kernel_rfl
theorem hb11:aM Tryz.prog 11=true:=by kernel_rfl
theorem hb112:aM Tryz.prog 112=true:=by kernel_rfl
theorem Ll:aM Tryz.prog 12=true:=by kernel_rfl
theorem hb120:aM Tryz.prog 120=true:=by kernel_rfl
theorem hb121:aM Tryz.prog 121=true:=by kernel_rfl
theorem hb128:aM Tryz.prog 128=true:=by kernel_rfl
theorem hb129:aM Tryz.prog 129=true:=by kernel_rfl
theorem hb13:aM Tryz.prog 13=true:=by kernel_rfl
theorem hb130:aM Tryz.prog 130=true:=by kernel_rfl
theorem hb138:aM Tryz.prog 138=true:=by kernel_rfl
theorem hb14:aM Tryz.prog 14=true:=by kernel_rfl
theorem hb148:aM Tryz.prog 148=true:=by kernel_rfl
theorem hb15:aM Tryz.prog 15=true:=by kernel_rfl
theorem hb16:aM Tryz.prog 16=true:=by kernel_rfl
theorem hb161:aM Tryz.prog 161=true:=by kernel_rfl
theorem hb162:aM Tryz.prog 162=true:=by kernel_rfl
theorem hb17:aM Tryz.prog 17=true:=by kernel_rfl
theorem hb18:aM Tryz.prog 18=true:=by kernel_rfl
theorem hb19:aM Tryz.prog 19=true:=by kernel_rfl
theorem hb20:aM Tryz.prog 20=true:=by kernel_rfl
theorem hb21:aM Tryz.prog 21=true:=by kernel_rfl
theorem hb22:aM Tryz.prog 22=true:=by kernel_rfl
theorem hb23:aM Tryz.prog 23=true:=by kernel_rfl
theorem hb24:aM Tryz.prog 24=true:=by kernel_rfl
theorem hb25:aM Tryz.prog 25=true:=by kernel_rfl
theorem hb26:aM Tryz.prog 26=true:=by kernel_rfl
theorem hb27:aM Tryz.prog 27=true:=by kernel_rfl
theorem hb28:aM Tryz.prog 28=true:=by kernel_rfl
theorem hb29:aM Tryz.prog 29=true:=by kernel_rfl
theorem hb30:aM Tryz.prog 30=true:=by kernel_rfl
theorem hb31:aM Tryz.prog 31=true:=by kernel_rfl
theorem Ib:aM Tryz.prog 32=true:=by kernel_rfl
theorem hb33:aM Tryz.prog 33=true:=by kernel_rfl
theorem hb34:aM Tryz.prog 34=true:=by kernel_rfl
theorem hb35:aM Tryz.prog 35=true:=by kernel_rfl
theorem hb36:aM Tryz.prog 36=true:=by kernel_rfl
theorem hb37:aM Tryz.prog 37=true:=by kernel_rfl
theorem hb38:aM Tryz.prog 38=true:=by kernel_rfl
theorem hb39:aM Tryz.prog 39=true:=by kernel_rfl
theorem hb4:aM Tryz.prog 4=true:=by kernel_rfl
theorem hb40:aM Tryz.prog 40=true:=by kernel_rfl
theorem hb41:aM Tryz.prog 41=true:=by kernel_rfl
theorem hb42:aM Tryz.prog 42=true:=by kernel_rfl
theorem hb43:aM Tryz.prog 43=true:=by kernel_rfl
theorem hb44:aM Tryz.prog 44=true:=by kernel_rfl
theorem hb45:aM Tryz.prog 45=true:=by kernel_rfl
theorem hb46:aM Tryz.prog 46=true:=by kernel_rfl
theorem rR:aM Tryz.prog 47=true:=by kernel_rfl
theorem hb48:aM Tryz.prog 48=true:=by kernel_rfl
theorem hb49:aM Tryz.prog 49=true:=by kernel_rfl
theorem hb5:aM Tryz.prog 5=true:=by kernel_rfl
theorem hb50:aM Tryz.prog 50=true:=by kernel_rfl
theorem hb51:aM Tryz.prog 51=true:=by kernel_rfl
theorem CY:aM Tryz.prog 52=true:=by kernel_rfl
theorem hb53:aM Tryz.prog 53=true:=by kernel_rfl
theorem hb54:aM Tryz.prog 54=true:=by kernel_rfl
theorem hb55:aM Tryz.prog 55=true:=by kernel_rfl
theorem hb56:aM Tryz.prog 56=true:=by kernel_rfl
theorem hb57:aM Tryz.prog 57=true:=by kernel_rfl
theorem hb58:aM Tryz.prog 58=true:=by kernel_rfl
theorem hb59:aM Tryz.prog 59=true:=by kernel_rfl
theorem hb6:aM Tryz.prog 6=true:=by kernel_rfl
theorem hb60:aM Tryz.prog 60=true:=by kernel_rfl
theorem hb61:aM Tryz.prog 61=true:=by kernel_rfl
theorem hb63:aM Tryz.prog 63=true:=by kernel_rfl
theorem hb64:aM Tryz.prog 64=true:=by kernel_rfl
theorem hb65:aM Tryz.prog 65=true:=by kernel_rfl
theorem hb66:aM Tryz.prog 66=true:=by kernel_rfl
theorem hb67:aM Tryz.prog 67=true:=by kernel_rfl
theorem hb68:aM Tryz.prog 68=true:=by kernel_rfl
theorem hb69:aM Tryz.prog 69=true:=by kernel_rfl
theorem hb7:aM Tryz.prog 7=true:=by kernel_rfl
theorem hb70:aM Tryz.prog 70=true:=by kernel_rfl
theorem hb71:aM Tryz.prog 71=true:=by kernel_rfl
theorem hb72:aM Tryz.prog 72=true:=by kernel_rfl
theorem hb73:aM Tryz.prog 73=true:=by kernel_rfl
theorem hb74:aM Tryz.prog 74=true:=by kernel_rfl
theorem hb75:aM Tryz.prog 75=true:=by kernel_rfl
theorem hb76:aM Tryz.prog 76=true:=by kernel_rfl
theorem hb77:aM Tryz.prog 77=true:=by kernel_rfl
theorem hb78:aM Tryz.prog 78=true:=by kernel_rfl
theorem hb79:aM Tryz.prog 79=true:=by kernel_rfl
theorem hb8:aM Tryz.prog 8=true:=by kernel_rfl
theorem hb80:aM Tryz.prog 80=true:=by kernel_rfl
theorem hb81:aM Tryz.prog 81=true:=by kernel_rfl
theorem hb82:aM Tryz.prog 82=true:=by kernel_rfl
theorem hb83:aM Tryz.prog 83=true:=by kernel_rfl
theorem hb84:aM Tryz.prog 84=true:=by kernel_rfl
theorem hb85:aM Tryz.prog 85=true:=by kernel_rfl
theorem hb9:aM Tryz.prog 9=true:=by kernel_rfl
theorem hb92:aM Tryz.prog 92=true:=by kernel_rfl
theorem hb96:aM Tryz.prog 96=true:=by kernel_rfl
theorem hb97:aM Tryz.prog 97=true:=by kernel_rfl
theorem hb98:aM Tryz.prog 98=true:=by kernel_rfl
theorem hb99:aM Tryz.prog 99=true:=by kernel_rfl
theorem nb145:aM Tryz.prog 145=false:=by kernel_rfl
theorem lV:bG Tryz.prog 144 0=some (0,1):=by kernel_rfl
theorem rC:bG Tryz.prog 144 1=some (1,1):=by kernel_rfl
theorem tZ:bG Tryz.prog 155 0=some (0,1):=by kernel_rfl
theorem vF:bG Tryz.prog 155 1=some (1,1):=by kernel_rfl
theorem IA:bG Tryz.prog 25 0=some (0,1):=by kernel_rfl
theorem Eo:bG Tryz.prog 25 1=some (1,1):=by kernel_rfl
theorem mg:bG Tryz.prog 37 0=some (0,1):=by kernel_rfl
theorem mI:bG Tryz.prog 37 1=some (1,1):=by kernel_rfl
theorem EB:bG Tryz.prog 40 0=some (0,1):=by kernel_rfl
theorem El:bG Tryz.prog 40 1=some (1,2):=by kernel_rfl
theorem Sa:bG Tryz.prog 40 2=some (3,1):=by kernel_rfl
theorem Ih:bG Tryz.prog 40 3=some (4,1):=by kernel_rfl
theorem pl42_0:bG Tryz.prog 42 0=some (0,1):=by kernel_rfl
theorem pl42_1:bG Tryz.prog 42 1=some (1,1):=by kernel_rfl
theorem pl42_2:bG Tryz.prog 42 2=some (2,1):=by kernel_rfl
theorem ut:bG Tryz.prog 44 0=some (0,1):=by kernel_rfl
theorem LG:bG Tryz.prog 44 1=some (1,1):=by kernel_rfl
theorem BA:bG Tryz.prog 44 2=some (2,1):=by kernel_rfl
theorem IY:bG Tryz.prog 44 3=some (3,1):=by kernel_rfl
theorem Ml:bG Tryz.prog 44 4=some (4,1):=by kernel_rfl
theorem QI:bG Tryz.prog 44 5=some (5,1):=by kernel_rfl
theorem pl51_0:bG Tryz.prog 51 0=some (0,1):=by kernel_rfl
theorem PY:bG Tryz.prog 51 1=some (1,1):=by kernel_rfl
theorem Bp:bG Tryz.prog 51 2=some (2,1):=by kernel_rfl
theorem pl51_3:bG Tryz.prog 51 3=some (3,1):=by kernel_rfl
theorem pl56_1:bG Tryz.prog 56 1=some (1,1):=by kernel_rfl
theorem MJ:bG Tryz.prog 56 2=some (2,1):=by kernel_rfl
theorem Bt:bG Tryz.prog 58 0=some (0,1):=by kernel_rfl
theorem P7:bG Tryz.prog 58 1=some (1,1):=by kernel_rfl
theorem uB:bG Tryz.prog 58 2=some (2,2):=by kernel_rfl
theorem Ir:bG Tryz.prog 58 3=some (4,1):=by kernel_rfl
theorem zH:bG Tryz.prog 58 4=some (5,1):=by kernel_rfl
theorem Qn:bG Tryz.prog 58 5=some (6,1):=by kernel_rfl
theorem pl58_6:bG Tryz.prog 58 6=some (7,1):=by kernel_rfl
theorem nk:bG Tryz.prog 72 0=some (0,1):=by kernel_rfl
theorem pl72_1:bG Tryz.prog 72 1=some (1,1):=by kernel_rfl
theorem Jg:bG Tryz.prog 76 0=some (0,1):=by kernel_rfl
theorem Cg:bG Tryz.prog 76 1=some (1,1):=by kernel_rfl
theorem MG:bG Tryz.prog 76 2=some (2,1):=by kernel_rfl
theorem Iq:bG Tryz.prog 76 3=some (3,1):=by kernel_rfl
theorem Ch:bG Tryz.prog 81 0=some (0,1):=by kernel_rfl
theorem DV:bG Tryz.prog 81 1=some (1,1):=by kernel_rfl
theorem DL:bG Tryz.prog 81 2=some (2,1):=by kernel_rfl
theorem LB:bG Tryz.prog 87 0=some (0,1):=by kernel_rfl
theorem pl87_1:bG Tryz.prog 87 1=some (1,1):=by kernel_rfl
theorem pl87_10:bG Tryz.prog 87 10=some (10,1):=by kernel_rfl
theorem pl87_11:bG Tryz.prog 87 11=some (11,1):=by kernel_rfl
theorem pl87_12:bG Tryz.prog 87 12=some (12,1):=by kernel_rfl
theorem pl87_2:bG Tryz.prog 87 2=some (2,1):=by kernel_rfl
theorem H8:bG Tryz.prog 87 3=some (3,1):=by kernel_rfl
theorem Iw:bG Tryz.prog 87 4=some (4,1):=by kernel_rfl
theorem R4:bG Tryz.prog 87 5=some (5,1):=by kernel_rfl
theorem RU:bG Tryz.prog 87 6=some (6,1):=by kernel_rfl
theorem Qb:bG Tryz.prog 87 7=some (7,1):=by kernel_rfl
theorem LZ:bG Tryz.prog 87 8=some (8,1):=by kernel_rfl
theorem Ra:bG Tryz.prog 87 9=some (9,1):=by kernel_rfl
theorem Qw:bG Tryz.prog 98 0=some (0,1):=by kernel_rfl
theorem Jq:bG Tryz.prog 98 1=some (1,1):=by kernel_rfl
theorem ou:szT Tryz.prog 144=some 2:=by kernel_rfl
theorem Gp:szT Tryz.prog 155=some 2:=by kernel_rfl
theorem uw:szT Tryz.prog 22=some 1:=by kernel_rfl
theorem sz3:szT Tryz.prog 3=some 1:=by kernel_rfl
theorem yN:szT Tryz.prog 37=some 2:=by kernel_rfl
theorem Jn:szT Tryz.prog 38=some 1:=by kernel_rfl
theorem sz4:szT Tryz.prog 4=some 1:=by kernel_rfl
theorem zA:szT Tryz.prog 40=some 5:=by kernel_rfl
theorem sz42:szT Tryz.prog 42=some 3:=by kernel_rfl
theorem zR:szT Tryz.prog 44=some 6:=by kernel_rfl
theorem sz5:szT Tryz.prog 5=some 1:=by kernel_rfl
theorem QU:szT Tryz.prog 51=some 4:=by kernel_rfl
theorem RF:szT Tryz.prog 56=some 3:=by kernel_rfl
theorem wQ:szT Tryz.prog 58=some 8:=by kernel_rfl
theorem yO:szT Tryz.prog 70=some 1:=by kernel_rfl
theorem BK:szT Tryz.prog 76=some 4:=by kernel_rfl
theorem sz77:szT Tryz.prog 77=some 1:=by kernel_rfl
theorem OX:szT Tryz.prog 81=some 3:=by kernel_rfl
theorem LC:szT Tryz.prog 87=some 13:=by kernel_rfl
theorem sz9:szT Tryz.prog 9=some 1:=by kernel_rfl
theorem F7:szT Tryz.prog 98=some 2:=by kernel_rfl
theorem un114:(Tryz.prog).underlying 114=some (.slice 87):=by kernel_rfl
theorem Re:(Tryz.prog).underlying 124=some (.slice 155):=by kernel_rfl
theorem Cz:(Tryz.prog).underlying 132=some (.int .u64):=by kernel_rfl
theorem yQ:(Tryz.prog).underlying 139=some (.slice 144):=by kernel_rfl
theorem KV:(Tryz.prog).underlying 149=some (.int .u64):=by kernel_rfl
theorem un168:(Tryz.prog).underlying 168=some (.slice 77):=by kernel_rfl
theorem un184:(Tryz.prog).underlying 184=some (.slice 5):=by kernel_rfl
theorem ug:(Tryz.prog).underlying 22=some (.slice 3):=by kernel_rfl
theorem Lr:(Tryz.prog).underlying 26=some (.slice 40):=by kernel_rfl
theorem I6:(Tryz.prog).underlying 28=some (.slice 58):=by kernel_rfl
theorem un3:(Tryz.prog).underlying 3=some (.int .i64):=by kernel_rfl
theorem un30:(Tryz.prog).underlying 30=some (.slice 42):=by kernel_rfl
theorem Ja:(Tryz.prog).underlying 35=some (.slice 44):=by kernel_rfl
theorem Et:(Tryz.prog).underlying 38=some (.slice 9):=by kernel_rfl
theorem RG:(Tryz.prog).underlying 47=some (.slice 51):=by kernel_rfl
theorem un5:(Tryz.prog).underlying 5=some (.int .u8):=by kernel_rfl
theorem un52:(Tryz.prog).underlying 52=some (.slice 56):=by kernel_rfl
theorem un70:(Tryz.prog).underlying 70=some (.slice 22):=by kernel_rfl
theorem IM:(Tryz.prog).underlying 77=some (.slice 76):=by kernel_rfl
theorem un82:(Tryz.prog).underlying 82=some (.slice 81):=by kernel_rfl
theorem un83:(Tryz.prog).underlying 83=some (.slice 37):=by kernel_rfl
theorem un9:(Tryz.prog).underlying 9=some .string:=by kernel_rfl
theorem un94:(Tryz.prog).underlying 94=some (.slice 98):=by kernel_rfl
theorem MP:zeroCells Tryz.prog 144=some [.d (.int .i64 0),.d (.int .i64 0)]:=by kernel_rfl
theorem z155:zeroCells Tryz.prog 155=some [.d (.int .i64 0),.d (.int .i64 0)]:=by kernel_rfl
theorem z207:zeroCells Tryz.prog 207=some [.d (.int .u8 0),.d (.int .u8 0),.d (.int .u8 0),.d (.int .u8 0),.d (.int .u8 0),.d (.int .u8 0),.d (.int .u8 0),.d (.int .u8 0),.d (.int .u8 0),.d (.int .u8 0),.d (.int .u8 0),.d (.int .u8 0),.d (.int .u8 0),.d (.int .u8 0),.d (.int .u8 0),.d (.int .u8 0),.d (.int .u8 0),.d (.int .u8 0),.d (.int .u8 0),.d (.int .u8 0),.d (.int .u8 0),.d (.int .u8 0),.d (.int .u8 0),.d (.int .u8 0)]:=by kernel_rfl
theorem z22:zeroCells Tryz.prog 22=some [.nil]:=by kernel_rfl
theorem z228:zeroCells Tryz.prog 228=some [.d (.int .u8 0),.d (.int .u8 0),.d (.int .u8 0),.d (.int .u8 0),.d (.int .u8 0),.d (.int .u8 0),.d (.int .u8 0),.d (.int .u8 0),.d (.int .u8 0),.d (.int .u8 0),.d (.int .u8 0),.d (.int .u8 0),.d (.int .u8 0),.d (.int .u8 0),.d (.int .u8 0),.d (.int .u8 0),.d (.int .u8 0),.d (.int .u8 0),.d (.int .u8 0),.d (.int .u8 0),.d (.int .u8 0),.d (.int .u8 0),.d (.int .u8 0),.d (.int .u8 0),.d (.int .u8 0),.d (.int .u8 0),.d (.int .u8 0),.d (.int .u8 0),.d (.int .u8 0),.d (.int .u8 0),.d (.int .u8 0),.d (.int .u8 0),.d (.int .u8 0),.d (.int .u8 0),.d (.int .u8 0),.d (.int .u8 0),.d (.int .u8 0),.d (.int .u8 0),.d (.int .u8 0),.d (.int .u8 0),.d (.int .u8 0),.d (.int .u8 0),.d (.int .u8 0),.d (.int .u8 0),.d (.int .u8 0),.d (.int .u8 0),.d (.int .u8 0),.d (.int .u8 0),.d (.int .u8 0),.d (.int .u8 0),.d (.int .u8 0),.d (.int .u8 0),.d (.int .u8 0),.d (.int .u8 0),.d (.int .u8 0),.d (.int .u8 0),.d (.int .u8 0),.d (.int .u8 0),.d (.int .u8 0),.d (.int .u8 0),.d (.int .u8 0),.d (.int .u8 0),.d (.int .u8 0),.d (.int .u8 0),.d (.int .u8 0)]:=by kernel_rfl
theorem z3:zeroCells Tryz.prog 3=some [.d (.int .i64 0)]:=by kernel_rfl
theorem z37:zeroCells Tryz.prog 37=some [.d (.int .i64 0),.d (.int .i64 0)]:=by kernel_rfl
theorem z40:zeroCells Tryz.prog 40=some [.d (.str ⟨#[]⟩),.d (.int .i64 0),.d (.int .i64 0),.d (.int .i64 0),.nil]:=by kernel_rfl
theorem z42:zeroCells Tryz.prog 42=some [.d (.str ⟨#[]⟩),.d (.str ⟨#[]⟩),.d (.int .i64 0)]:=by kernel_rfl
theorem z44:zeroCells Tryz.prog 44=some [.d (.str ⟨#[]⟩),.d (.str ⟨#[]⟩),.d (.int .i64 0),.d (.int .i64 0),.d (.int .i64 0),.d (.str ⟨#[]⟩)]:=by kernel_rfl
theorem z51:zeroCells Tryz.prog 51=some [.d (.str ⟨#[]⟩),.d (.str ⟨#[]⟩),.d (.int .i64 0),.d (.int .i64 0)]:=by kernel_rfl
theorem z56:zeroCells Tryz.prog 56=some [.d (.str ⟨#[]⟩),.d (.int .i64 0),.d (.int .i64 0)]:=by kernel_rfl
theorem z58:zeroCells Tryz.prog 58=some [.d (.str ⟨#[]⟩),.d (.str ⟨#[]⟩),.d (.int .i64 0),.d (.int .i64 0),.nil,.d (.int .i64 0),.d (.int .i64 0),.d (.int .i64 0)]:=by kernel_rfl
theorem z76:zeroCells Tryz.prog 76=some [.d (.int .i64 0),.d (.int .i64 0),.d (.int .i64 0),.d (.int .i64 0)]:=by kernel_rfl
theorem z81:zeroCells Tryz.prog 81=some [.d (.str ⟨#[]⟩),.d (.int .i64 0),.d (.int .i64 0)]:=by kernel_rfl
theorem z87:zeroCells Tryz.prog 87=some [.d (.str ⟨#[]⟩),.d (.str ⟨#[]⟩),.d (.int .i64 0),.d (.int .i64 0),.d (.int .i64 0),.d (.int .i64 0),.d (.int .i64 0),.nil,.d (.int .i64 0),.d (.int .i64 0),.d (.int .i64 0),.nil,.d (.bool false)]:=by kernel_rfl
theorem z9:zeroCells Tryz.prog 9=some [.d (.str ⟨#[]⟩)]:=by kernel_rfl
theorem z98:zeroCells Tryz.prog 98=some [.d (.int .i64 0),.d (.int .i64 0)]:=by kernel_rfl
theorem laid_db : ∀ w, Go.Eng.FQ w → Go.Lib.TabIs Go.Proofs.Tryz.prog w "math/bits.deBruijn64tab" .u8 (Go.Lib.deBruijn64tab.map (fun (n : Nat) => (n : Int))) := fun _ h => h.1
theorem LQ : ∀ w, Go.Eng.FQ w → Go.Lib.TabIs Go.Proofs.Tryz.prog w "internal/strconv.uint64pow10" .u64 Go.Lib.pow10Tab := fun _ h => h.2
theorem db_g : Tryz.prog.globalNamed "math/bits.deBruijn64tab" = some 5 := by kernel_rfl
end Go.Proofs.YtkjlhdminmpmkaaGreatDoor.Law

