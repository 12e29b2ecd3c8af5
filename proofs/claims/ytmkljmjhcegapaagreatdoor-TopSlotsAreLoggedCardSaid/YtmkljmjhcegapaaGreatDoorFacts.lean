/-
  Closed facts on the types and functions of the program.
-/
import Derived.Test.YtmkljmjhcegapaaGreatDoorProg
import Derived.Test.YtmkljmjhcegapaaGreatDoorEng5
open Go Go.Eng Go.Proofs
namespace Go.Proofs.YtmkljmjhcegapaaGreatDoor.Law
set_option maxRecDepth 100000
set_option linter.unusedVariables false
set_option maxHeartbeats 1000000
theorem ab220:zm Tryz.prog 220=some 24:=by kernel_rfl
theorem Dp:zm Tryz.prog 238=some 65:=by kernel_rfl
theorem Ro:dn Tryz.prog 100=true:=by kernel_rfl
theorem lb_ {a b:Nat} (h:Nat.ble a b=true):a<=b:=Nat.le_of_ble_eq_true h
abbrev SL_:=List (Nat×V)
theorem ag148:dn Tryz.prog 148=true:=by kernel_rfl
theorem yj:dn Tryz.prog 169=true:=by kernel_rfl
theorem CK:dn Tryz.prog 22=false:=by kernel_rfl
theorem L9:dn Tryz.prog 28=false:=by kernel_rfl
theorem ag3:dn Tryz.prog 3=false:=by kernel_rfl
theorem xL:dn Tryz.prog 30=true:=by kernel_rfl
theorem nX:dn Tryz.prog 33=true:=by kernel_rfl
theorem ag4:dn Tryz.prog 4=false:=by kernel_rfl
theorem ag40:dn Tryz.prog 40=true:=by kernel_rfl
theorem ag44:dn Tryz.prog 44=true:=by kernel_rfl
theorem Jl:dn Tryz.prog 46=true:=by kernel_rfl
theorem RJ:dn Tryz.prog 58=true:=by kernel_rfl
theorem CR:dn Tryz.prog 67=true:=by kernel_rfl
theorem PM:dn Tryz.prog 82=true:=by kernel_rfl
theorem ag9:dn Tryz.prog 9=false:=by kernel_rfl
theorem RX:dn Tryz.prog 90=false:=by kernel_rfl
theorem Co:dn Tryz.prog 92=true:=by kernel_rfl
theorem QF:dn Tryz.prog 96=true:=by kernel_rfl
theorem ag97:dn Tryz.prog 97=false:=by kernel_rfl
theorem by148:fV Tryz.prog 148=16:=by kernel_rfl
theorem NT:fV Tryz.prog 169=16:=by kernel_rfl
theorem by3:fV Tryz.prog 3=8:=by kernel_rfl
theorem RS:fV Tryz.prog 33=16:=by kernel_rfl
theorem by44:fV Tryz.prog 44=32:=by kernel_rfl
theorem by46:fV Tryz.prog 46=72:=by kernel_rfl
theorem by58:fV Tryz.prog 58=48:=by kernel_rfl
theorem by67:fV Tryz.prog 67=152:=by kernel_rfl
theorem by82:fV Tryz.prog 82=16:=by kernel_rfl
theorem by9:fV Tryz.prog 9=16:=by kernel_rfl
theorem by92:fV Tryz.prog 92=24:=by kernel_rfl
theorem by96:fV Tryz.prog 96=32:=by kernel_rfl
theorem Ng:bP Tryz.prog 117=some 148:=by kernel_rfl
theorem Dq:bP Tryz.prog 164=some 169:=by kernel_rfl
theorem Cc:bP Tryz.prog 22=some 3:=by kernel_rfl
theorem el26:bP Tryz.prog 26=some 67:=by kernel_rfl
theorem el28:bP Tryz.prog 28=some 9:=by kernel_rfl
theorem el34:bP Tryz.prog 34=some 44:=by kernel_rfl
theorem el42:bP Tryz.prog 42=some 46:=by kernel_rfl
theorem el49:bP Tryz.prog 49=some 58:=by kernel_rfl
theorem GQ:bP Tryz.prog 52=some 33:=by kernel_rfl
theorem el78:bP Tryz.prog 78=some 82:=by kernel_rfl
theorem MU:bP Tryz.prog 88=some 92:=by kernel_rfl
theorem MP:bP Tryz.prog 97=some 96:=by kernel_rfl
theorem A7:(bP Tryz.prog 117).bind (szT Tryz.prog)=some 2:=by kernel_rfl
theorem PR:(bP Tryz.prog 130).bind (szT Tryz.prog)=some 8:=by kernel_rfl
theorem nu:(bP Tryz.prog 164).bind (szT Tryz.prog)=some 2:=by kernel_rfl
theorem QI:(bP Tryz.prog 209).bind (szT Tryz.prog)=some 1:=by kernel_rfl
theorem lC:(bP Tryz.prog 22).bind (szT Tryz.prog)=some 1:=by kernel_rfl
theorem GK:(bP Tryz.prog 26).bind (szT Tryz.prog)=some 13:=by kernel_rfl
theorem Ao:(bP Tryz.prog 28).bind (szT Tryz.prog)=some 1:=by kernel_rfl
theorem PT:(bP Tryz.prog 34).bind (szT Tryz.prog)=some 3:=by kernel_rfl
theorem LF:(bP Tryz.prog 41).bind (szT Tryz.prog)=some 3:=by kernel_rfl
theorem Bd:(bP Tryz.prog 42).bind (szT Tryz.prog)=some 6:=by kernel_rfl
theorem RD:(bP Tryz.prog 49).bind (szT Tryz.prog)=some 4:=by kernel_rfl
theorem Fj:(bP Tryz.prog 52).bind (szT Tryz.prog)=some 2:=by kernel_rfl
theorem es68:(bP Tryz.prog 68).bind (szT Tryz.prog)=some 1:=by kernel_rfl
theorem Jw:(bP Tryz.prog 78).bind (szT Tryz.prog)=some 2:=by kernel_rfl
theorem Bh:(bP Tryz.prog 88).bind (szT Tryz.prog)=some 3:=by kernel_rfl
theorem O9:(bP Tryz.prog 97).bind (szT Tryz.prog)=some 4:=by kernel_rfl
theorem ez117:((bP Tryz.prog 117).bind (zeroCells Tryz.prog)).isSome=true:=by kernel_rfl
theorem ez130:((bP Tryz.prog 130).bind (zeroCells Tryz.prog)).isSome=true:=by kernel_rfl
theorem NC:((bP Tryz.prog 164).bind (zeroCells Tryz.prog)).isSome=true:=by kernel_rfl
theorem ez209:((bP Tryz.prog 209).bind (zeroCells Tryz.prog)).isSome=true:=by kernel_rfl
theorem wJ:((bP Tryz.prog 22).bind (zeroCells Tryz.prog)).isSome=true:=by kernel_rfl
theorem ez26:((bP Tryz.prog 26).bind (zeroCells Tryz.prog)).isSome=true:=by kernel_rfl
theorem Ov:((bP Tryz.prog 28).bind (zeroCells Tryz.prog)).isSome=true:=by kernel_rfl
theorem ez34:((bP Tryz.prog 34).bind (zeroCells Tryz.prog)).isSome=true:=by kernel_rfl
theorem ez41:((bP Tryz.prog 41).bind (zeroCells Tryz.prog)).isSome=true:=by kernel_rfl
theorem ez42:((bP Tryz.prog 42).bind (zeroCells Tryz.prog)).isSome=true:=by kernel_rfl
theorem ez49:((bP Tryz.prog 49).bind (zeroCells Tryz.prog)).isSome=true:=by kernel_rfl
theorem Qq:((bP Tryz.prog 52).bind (zeroCells Tryz.prog)).isSome=true:=by kernel_rfl
theorem ez68:((bP Tryz.prog 68).bind (zeroCells Tryz.prog)).isSome=true:=by kernel_rfl
theorem ez78:((bP Tryz.prog 78).bind (zeroCells Tryz.prog)).isSome=true:=by kernel_rfl
theorem ez88:((bP Tryz.prog 88).bind (zeroCells Tryz.prog)).isSome=true:=by kernel_rfl
theorem ez97:((bP Tryz.prog 97).bind (zeroCells Tryz.prog)).isSome=true:=by kernel_rfl
theorem fr92_0:IB Tryz.prog 92 0=some (0,1,false):=by kernel_rfl
theorem hb10:aL Tryz.prog 10=true:=by kernel_rfl
theorem hb100:aL Tryz.prog 100=true:=by kernel_rfl
theorem hb101:aL Tryz.prog 101=true:=by kernel_rfl
theorem hb102:aL Tryz.prog 102=true:=by kernel_rfl
theorem hb103:aL Tryz.prog 103=true:=by kernel_rfl
theorem hb104:aL Tryz.prog 104=true:=by kernel_rfl
theorem hb105:aL Tryz.prog 105=true:=by kernel_rfl
theorem hb106:aL Tryz.prog 106=true:=by kernel_rfl
theorem hb107:aL Tryz.prog 107=true:=by kernel_rfl
theorem hb108:aL Tryz.prog 108=true:=by kernel_rfl
theorem hb11:aL Tryz.prog 11=true:=by kernel_rfl
theorem hb117:aL Tryz.prog 117=true:=by kernel_rfl
theorem hb12:aL Tryz.prog 12=true:=by kernel_rfl
theorem hb125:aL Tryz.prog 125=true:=by kernel_rfl
theorem hb13:aL Tryz.prog 13=true:=by kernel_rfl
theorem hb133:aL Tryz.prog 133=true:=by kernel_rfl
theorem hb14:aL Tryz.prog 14=true:=by kernel_rfl
theorem hb140:aL Tryz.prog 140=true:=by kernel_rfl
theorem hb141:aL Tryz.prog 141=true:=by kernel_rfl
theorem hb142:aL Tryz.prog 142=true:=by kernel_rfl
theorem hb143:aL Tryz.prog 143=true:=by kernel_rfl
theorem hb144:aL Tryz.prog 144=true:=by kernel_rfl
theorem hb145:aL Tryz.prog 145=true:=by kernel_rfl
theorem hb146:aL Tryz.prog 146=true:=by kernel_rfl
theorem hb15:aL Tryz.prog 15=true:=by kernel_rfl
theorem hb158:aL Tryz.prog 158=true:=by kernel_rfl
theorem hb16:aL Tryz.prog 16=true:=by kernel_rfl
theorem hb167:aL Tryz.prog 167=true:=by kernel_rfl
theorem hb168:aL Tryz.prog 168=true:=by kernel_rfl
theorem hb169:aL Tryz.prog 169=true:=by kernel_rfl
theorem Ku:aL Tryz.prog 17=true:=by kernel_rfl
theorem hb176:aL Tryz.prog 176=true:=by kernel_rfl
theorem hb177:aL Tryz.prog 177=true:=by kernel_rfl
theorem Qw:aL Tryz.prog 18=true:=by kernel_rfl
theorem hb181:aL Tryz.prog 181=true:=by kernel_rfl
theorem hb19:aL Tryz.prog 19=true:=by kernel_rfl
theorem hb20:aL Tryz.prog 20=true:=by kernel_rfl
theorem hb21:aL Tryz.prog 21=true:=by kernel_rfl
theorem hb22:aL Tryz.prog 22=true:=by kernel_rfl
theorem hb23:aL Tryz.prog 23=true:=by kernel_rfl
theorem hb24:aL Tryz.prog 24=true:=by kernel_rfl
theorem hb25:aL Tryz.prog 25=true:=by kernel_rfl
theorem hb26:aL Tryz.prog 26=true:=by kernel_rfl
theorem hb27:aL Tryz.prog 27=true:=by kernel_rfl
theorem Ja:aL Tryz.prog 28=true:=by kernel_rfl
theorem hb29:aL Tryz.prog 29=true:=by kernel_rfl
theorem hb30:aL Tryz.prog 30=true:=by kernel_rfl
theorem AZ:aL Tryz.prog 31=true:=by kernel_rfl
theorem rT:aL Tryz.prog 32=true:=by kernel_rfl
theorem hb33:aL Tryz.prog 33=true:=by kernel_rfl
theorem hb34:aL Tryz.prog 34=true:=by kernel_rfl
theorem hb35:aL Tryz.prog 35=true:=by kernel_rfl
theorem hb36:aL Tryz.prog 36=true:=by kernel_rfl
theorem hb37:aL Tryz.prog 37=true:=by kernel_rfl
theorem hb38:aL Tryz.prog 38=true:=by kernel_rfl
theorem hb39:aL Tryz.prog 39=true:=by kernel_rfl
theorem hb4:aL Tryz.prog 4=true:=by kernel_rfl
theorem hb40:aL Tryz.prog 40=true:=by kernel_rfl
theorem hb41:aL Tryz.prog 41=true:=by kernel_rfl
theorem hb42:aL Tryz.prog 42=true:=by kernel_rfl
theorem hb43:aL Tryz.prog 43=true:=by kernel_rfl
theorem hb44:aL Tryz.prog 44=true:=by kernel_rfl
theorem hb45:aL Tryz.prog 45=true:=by kernel_rfl
theorem LP:aL Tryz.prog 46=true:=by kernel_rfl
theorem hb47:aL Tryz.prog 47=true:=by kernel_rfl
theorem hb48:aL Tryz.prog 48=true:=by kernel_rfl
theorem hb49:aL Tryz.prog 49=true:=by kernel_rfl
theorem hb5:aL Tryz.prog 5=true:=by kernel_rfl
theorem hb50:aL Tryz.prog 50=true:=by kernel_rfl
theorem hb51:aL Tryz.prog 51=true:=by kernel_rfl
theorem hb52:aL Tryz.prog 52=true:=by kernel_rfl
theorem hb53:aL Tryz.prog 53=true:=by kernel_rfl
theorem hb54:aL Tryz.prog 54=true:=by kernel_rfl
theorem hb55:aL Tryz.prog 55=true:=by kernel_rfl
theorem hb56:aL Tryz.prog 56=true:=by kernel_rfl
theorem hb57:aL Tryz.prog 57=true:=by kernel_rfl
theorem hb58:aL Tryz.prog 58=true:=by kernel_rfl
theorem hb59:aL Tryz.prog 59=true:=by kernel_rfl
theorem hb6:aL Tryz.prog 6=true:=by kernel_rfl
theorem hb60:aL Tryz.prog 60=true:=by kernel_rfl
theorem hb62:aL Tryz.prog 62=true:=by kernel_rfl
theorem hb63:aL Tryz.prog 63=true:=by kernel_rfl
theorem hb64:aL Tryz.prog 64=true:=by kernel_rfl
theorem hb65:aL Tryz.prog 65=true:=by kernel_rfl
theorem hb66:aL Tryz.prog 66=true:=by kernel_rfl
theorem hb67:aL Tryz.prog 67=true:=by kernel_rfl
theorem hb68:aL Tryz.prog 68=true:=by kernel_rfl
theorem hb69:aL Tryz.prog 69=true:=by kernel_rfl
theorem hb7:aL Tryz.prog 7=true:=by kernel_rfl
theorem hb70:aL Tryz.prog 70=true:=by kernel_rfl
theorem hb71:aL Tryz.prog 71=true:=by kernel_rfl
theorem hb72:aL Tryz.prog 72=true:=by kernel_rfl
theorem hb73:aL Tryz.prog 73=true:=by kernel_rfl
theorem hb74:aL Tryz.prog 74=true:=by kernel_rfl
theorem hb76:aL Tryz.prog 76=true:=by kernel_rfl
theorem hb77:aL Tryz.prog 77=true:=by kernel_rfl
theorem hb78:aL Tryz.prog 78=true:=by kernel_rfl
theorem hb79:aL Tryz.prog 79=true:=by kernel_rfl
theorem hb8:aL Tryz.prog 8=true:=by kernel_rfl
theorem hb80:aL Tryz.prog 80=true:=by kernel_rfl
theorem hb81:aL Tryz.prog 81=true:=by kernel_rfl
theorem hb82:aL Tryz.prog 82=true:=by kernel_rfl
theorem hb83:aL Tryz.prog 83=true:=by kernel_rfl
theorem hb84:aL Tryz.prog 84=true:=by kernel_rfl
theorem hb85:aL Tryz.prog 85=true:=by kernel_rfl
theorem hb9:aL Tryz.prog 9=true:=by kernel_rfl
theorem hb92:aL Tryz.prog 92=true:=by kernel_rfl
theorem hb96:aL Tryz.prog 96=true:=by kernel_rfl
theorem hb97:aL Tryz.prog 97=true:=by kernel_rfl
theorem hb98:aL Tryz.prog 98=true:=by kernel_rfl
theorem hb99:aL Tryz.prog 99=true:=by kernel_rfl
theorem nb150:aL Tryz.prog 150=false:=by kernel_rfl
theorem JM:bQ Tryz.prog 100 0=some (0,1):=by kernel_rfl
theorem NW:bQ Tryz.prog 100 1=some (1,1):=by kernel_rfl
theorem yV:bQ Tryz.prog 100 2=some (2,2):=by kernel_rfl
theorem pl100_3:bQ Tryz.prog 100 3=some (4,1):=by kernel_rfl
theorem I5:bQ Tryz.prog 100 4=some (5,1):=by kernel_rfl
theorem pl100_5:bQ Tryz.prog 100 5=some (6,1):=by kernel_rfl
theorem pl100_6:bQ Tryz.prog 100 6=some (7,1):=by kernel_rfl
theorem ut:bQ Tryz.prog 148 0=some (0,1):=by kernel_rfl
theorem wU:bQ Tryz.prog 148 1=some (1,1):=by kernel_rfl
theorem mr:bQ Tryz.prog 169 0=some (0,1):=by kernel_rfl
theorem rU:bQ Tryz.prog 169 1=some (1,1):=by kernel_rfl
theorem Jt:bQ Tryz.prog 25 0=some (0,1):=by kernel_rfl
theorem EZ:bQ Tryz.prog 25 1=some (1,1):=by kernel_rfl
theorem P8:bQ Tryz.prog 30 0=some (0,1):=by kernel_rfl
theorem pl30_1:bQ Tryz.prog 30 1=some (1,1):=by kernel_rfl
theorem MG:bQ Tryz.prog 30 2=some (2,1):=by kernel_rfl
theorem Rt:bQ Tryz.prog 30 3=some (3,1):=by kernel_rfl
theorem iI:bQ Tryz.prog 33 0=some (0,1):=by kernel_rfl
theorem iK:bQ Tryz.prog 33 1=some (1,1):=by kernel_rfl
theorem BU:bQ Tryz.prog 40 0=some (0,1):=by kernel_rfl
theorem FJ:bQ Tryz.prog 40 1=some (1,1):=by kernel_rfl
theorem FH:bQ Tryz.prog 40 2=some (2,1):=by kernel_rfl
theorem Gq:bQ Tryz.prog 44 0=some (0,2):=by kernel_rfl
theorem IC:bQ Tryz.prog 44 1=some (2,1):=by kernel_rfl
theorem uI:bQ Tryz.prog 46 0=some (0,1):=by kernel_rfl
theorem L8:bQ Tryz.prog 46 1=some (1,1):=by kernel_rfl
theorem Ch:bQ Tryz.prog 46 2=some (2,1):=by kernel_rfl
theorem IY:bQ Tryz.prog 46 3=some (3,1):=by kernel_rfl
theorem LH:bQ Tryz.prog 46 4=some (4,1):=by kernel_rfl
theorem Rp:bQ Tryz.prog 46 5=some (5,1):=by kernel_rfl
theorem IW:bQ Tryz.prog 58 0=some (0,1):=by kernel_rfl
theorem QU:bQ Tryz.prog 58 1=some (1,1):=by kernel_rfl
theorem BZ:bQ Tryz.prog 58 2=some (2,1):=by kernel_rfl
theorem Qz:bQ Tryz.prog 58 3=some (3,1):=by kernel_rfl
theorem Ai:bQ Tryz.prog 67 0=some (0,1):=by kernel_rfl
theorem pl67_1:bQ Tryz.prog 67 1=some (1,1):=by kernel_rfl
theorem Jy:bQ Tryz.prog 67 10=some (10,1):=by kernel_rfl
theorem Ed:bQ Tryz.prog 67 11=some (11,1):=by kernel_rfl
theorem Nj:bQ Tryz.prog 67 12=some (12,1):=by kernel_rfl
theorem pl67_2:bQ Tryz.prog 67 2=some (2,1):=by kernel_rfl
theorem Cw:bQ Tryz.prog 67 3=some (3,1):=by kernel_rfl
theorem Ce:bQ Tryz.prog 67 4=some (4,1):=by kernel_rfl
theorem Qb:bQ Tryz.prog 67 5=some (5,1):=by kernel_rfl
theorem QG:bQ Tryz.prog 67 6=some (6,1):=by kernel_rfl
theorem Jn:bQ Tryz.prog 67 7=some (7,1):=by kernel_rfl
theorem Mk:bQ Tryz.prog 67 8=some (8,1):=by kernel_rfl
theorem Qi:bQ Tryz.prog 67 9=some (9,1):=by kernel_rfl
theorem Rv:bQ Tryz.prog 82 0=some (0,1):=by kernel_rfl
theorem I7:bQ Tryz.prog 82 1=some (1,1):=by kernel_rfl
theorem Fy:bQ Tryz.prog 92 0=some (0,1):=by kernel_rfl
theorem zR:bQ Tryz.prog 92 1=some (1,2):=by kernel_rfl
theorem Jh:bQ Tryz.prog 96 0=some (0,1):=by kernel_rfl
theorem BM:bQ Tryz.prog 96 1=some (1,1):=by kernel_rfl
theorem L6:bQ Tryz.prog 96 2=some (2,1):=by kernel_rfl
theorem IZ:bQ Tryz.prog 96 3=some (3,1):=by kernel_rfl
theorem Nz:szT Tryz.prog 100=some 8:=by kernel_rfl
theorem Ip:szT Tryz.prog 148=some 2:=by kernel_rfl
theorem oL:szT Tryz.prog 169=some 2:=by kernel_rfl
theorem Aa:szT Tryz.prog 22=some 1:=by kernel_rfl
theorem K5:szT Tryz.prog 28=some 1:=by kernel_rfl
theorem sz3:szT Tryz.prog 3=some 1:=by kernel_rfl
theorem uR:szT Tryz.prog 30=some 4:=by kernel_rfl
theorem jZ:szT Tryz.prog 33=some 2:=by kernel_rfl
theorem sz4:szT Tryz.prog 4=some 1:=by kernel_rfl
theorem Pf:szT Tryz.prog 40=some 3:=by kernel_rfl
theorem Qa:szT Tryz.prog 44=some 3:=by kernel_rfl
theorem Ay:szT Tryz.prog 46=some 6:=by kernel_rfl
theorem sz5:szT Tryz.prog 5=some 1:=by kernel_rfl
theorem Jp:szT Tryz.prog 58=some 4:=by kernel_rfl
theorem zh:szT Tryz.prog 67=some 13:=by kernel_rfl
theorem GV:szT Tryz.prog 82=some 2:=by kernel_rfl
theorem sz9:szT Tryz.prog 9=some 1:=by kernel_rfl
theorem QD:szT Tryz.prog 90=some 1:=by kernel_rfl
theorem qY:szT Tryz.prog 92=some 3:=by kernel_rfl
theorem CF:szT Tryz.prog 96=some 4:=by kernel_rfl
theorem sz97:szT Tryz.prog 97=some 1:=by kernel_rfl
theorem RH:(Tryz.prog).underlying 117=some (.slice 148):=by kernel_rfl
theorem CW:(Tryz.prog).underlying 124=some (.int .u64):=by kernel_rfl
theorem un130:(Tryz.prog).underlying 130=some (.slice 100):=by kernel_rfl
theorem Kb:(Tryz.prog).underlying 143=some (.int .u64):=by kernel_rfl
theorem zw:(Tryz.prog).underlying 164=some (.slice 169):=by kernel_rfl
theorem un191:(Tryz.prog).underlying 191=some (.slice 5):=by kernel_rfl
theorem un209:(Tryz.prog).underlying 209=some (.slice 97):=by kernel_rfl
theorem w9:(Tryz.prog).underlying 22=some (.slice 3):=by kernel_rfl
theorem un26:(Tryz.prog).underlying 26=some (.slice 67):=by kernel_rfl
theorem Ka:(Tryz.prog).underlying 28=some (.slice 9):=by kernel_rfl
theorem un3:(Tryz.prog).underlying 3=some (.int .i64):=by kernel_rfl
theorem un34:(Tryz.prog).underlying 34=some (.slice 44):=by kernel_rfl
theorem un41:(Tryz.prog).underlying 41=some (.slice 40):=by kernel_rfl
theorem Lx:(Tryz.prog).underlying 42=some (.slice 46):=by kernel_rfl
theorem un49:(Tryz.prog).underlying 49=some (.slice 58):=by kernel_rfl
theorem un5:(Tryz.prog).underlying 5=some (.int .u8):=by kernel_rfl
theorem MZ:(Tryz.prog).underlying 52=some (.slice 33):=by kernel_rfl
theorem un78:(Tryz.prog).underlying 78=some (.slice 82):=by kernel_rfl
theorem DL:(Tryz.prog).underlying 88=some (.slice 92):=by kernel_rfl
theorem un9:(Tryz.prog).underlying 9=some .string:=by kernel_rfl
theorem JG:(Tryz.prog).underlying 97=some (.slice 96):=by kernel_rfl
theorem z100:zeroCells Tryz.prog 100=some [.d (.str ⟨#[]⟩),.d (.str ⟨#[]⟩),.d (.int .i64 0),.d (.int .i64 0),.nil,.d (.int .i64 0),.d (.int .i64 0),.d (.int .i64 0)]:=by kernel_rfl
theorem z148:zeroCells Tryz.prog 148=some [.d (.int .i64 0),.d (.int .i64 0)]:=by kernel_rfl
theorem LG:zeroCells Tryz.prog 169=some [.d (.int .i64 0),.d (.int .i64 0)]:=by kernel_rfl
theorem z22:zeroCells Tryz.prog 22=some [.nil]:=by kernel_rfl
theorem z220:zeroCells Tryz.prog 220=some [.d (.int .u8 0),.d (.int .u8 0),.d (.int .u8 0),.d (.int .u8 0),.d (.int .u8 0),.d (.int .u8 0),.d (.int .u8 0),.d (.int .u8 0),.d (.int .u8 0),.d (.int .u8 0),.d (.int .u8 0),.d (.int .u8 0),.d (.int .u8 0),.d (.int .u8 0),.d (.int .u8 0),.d (.int .u8 0),.d (.int .u8 0),.d (.int .u8 0),.d (.int .u8 0),.d (.int .u8 0),.d (.int .u8 0),.d (.int .u8 0),.d (.int .u8 0),.d (.int .u8 0)]:=by kernel_rfl
theorem z238:zeroCells Tryz.prog 238=some [.d (.int .u8 0),.d (.int .u8 0),.d (.int .u8 0),.d (.int .u8 0),.d (.int .u8 0),.d (.int .u8 0),.d (.int .u8 0),.d (.int .u8 0),.d (.int .u8 0),.d (.int .u8 0),.d (.int .u8 0),.d (.int .u8 0),.d (.int .u8 0),.d (.int .u8 0),.d (.int .u8 0),.d (.int .u8 0),.d (.int .u8 0),.d (.int .u8 0),.d (.int .u8 0),.d (.int .u8 0),.d (.int .u8 0),.d (.int .u8 0),.d (.int .u8 0),.d (.int .u8 0),.d (.int .u8 0),.d (.int .u8 0),.d (.int .u8 0),.d (.int .u8 0),.d (.int .u8 0),.d (.int .u8 0),.d (.int .u8 0),.d (.int .u8 0),.d (.int .u8 0),.d (.int .u8 0),.d (.int .u8 0),.d (.int .u8 0),.d (.int .u8 0),.d (.int .u8 0),.d (.int .u8 0),.d (.int .u8 0),.d (.int .u8 0),.d (.int .u8 0),.d (.int .u8 0),.d (.int .u8 0),.d (.int .u8 0),.d (.int .u8 0),.d (.int .u8 0),.d (.int .u8 0),.d (.int .u8 0),.d (.int .u8 0),.d (.int .u8 0),.d (.int .u8 0),.d (.int .u8 0),.d (.int .u8 0),.d (.int .u8 0),.d (.int .u8 0),.d (.int .u8 0),.d (.int .u8 0),.d (.int .u8 0),.d (.int .u8 0),.d (.int .u8 0),.d (.int .u8 0),.d (.int .u8 0),.d (.int .u8 0),.d (.int .u8 0)]:=by kernel_rfl
theorem z3:zeroCells Tryz.prog 3=some [.d (.int .i64 0)]:=by kernel_rfl
theorem z30:zeroCells Tryz.prog 30=some [.d (.str ⟨#[]⟩),.d (.str ⟨#[]⟩),.d (.int .i64 0),.nil]:=by kernel_rfl
theorem z33:zeroCells Tryz.prog 33=some [.d (.int .i64 0),.d (.int .i64 0)]:=by kernel_rfl
theorem z40:zeroCells Tryz.prog 40=some [.d (.str ⟨#[]⟩),.d (.int .i64 0),.d (.int .i64 0)]:=by kernel_rfl
theorem z44:zeroCells Tryz.prog 44=some [.d (.int .i64 0),.d (.int .i64 0),.d (.str ⟨#[]⟩)]:=by kernel_rfl
theorem z46:zeroCells Tryz.prog 46=some [.d (.str ⟨#[]⟩),.d (.str ⟨#[]⟩),.d (.int .i64 0),.d (.int .i64 0),.d (.int .i64 0),.d (.str ⟨#[]⟩)]:=by kernel_rfl
theorem z58:zeroCells Tryz.prog 58=some [.d (.str ⟨#[]⟩),.d (.str ⟨#[]⟩),.d (.int .i64 0),.d (.int .i64 0)]:=by kernel_rfl
theorem z67:zeroCells Tryz.prog 67=some [.d (.str ⟨#[]⟩),.d (.str ⟨#[]⟩),.d (.int .i64 0),.d (.int .i64 0),.d (.int .i64 0),.d (.int .i64 0),.d (.int .i64 0),.nil,.d (.int .i64 0),.d (.int .i64 0),.d (.int .i64 0),.nil,.d (.bool false)]:=by kernel_rfl
theorem z82:zeroCells Tryz.prog 82=some [.d (.int .i64 0),.d (.int .i64 0)]:=by kernel_rfl
theorem z9:zeroCells Tryz.prog 9=some [.d (.str ⟨#[]⟩)]:=by kernel_rfl
theorem z92:zeroCells Tryz.prog 92=some [.d .nilp,.d (.int .i64 0),.d (.int .i64 0)]:=by kernel_rfl
theorem z96:zeroCells Tryz.prog 96=some [.d (.int .i64 0),.d (.int .i64 0),.d (.int .i64 0),.d (.int .i64 0)]:=by kernel_rfl
theorem laid_db : ∀ w, Go.Eng.EM w → Go.Lib.TabIs Go.Proofs.Tryz.prog w "math/bits.deBruijn64tab" .u8 (Go.Lib.deBruijn64tab.map (fun (n : Nat) => (n : Int))) := fun _ h => h.1
theorem Na : ∀ w, Go.Eng.EM w → Go.Lib.TabIs Go.Proofs.Tryz.prog w "internal/strconv.uint64pow10" .u64 Go.Lib.pow10Tab := fun _ h => h.2
theorem db_g : Tryz.prog.globalNamed "math/bits.deBruijn64tab" = some 5 := by kernel_rfl
end Go.Proofs.YtmkljmjhcegapaaGreatDoor.Law

