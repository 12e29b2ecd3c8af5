/-
  Closed facts on the types and functions of the program.
-/
import Derived.Test.YtkjlhdminmpmkabGreatDoorProg
import Derived.Test.YtkjlhdminmpmkabGreatDoorEng5
open Go Go.Eng Go.Proofs
namespace Go.Proofs.YtkjlhdminmpmkabGreatDoor.Law
set_option maxRecDepth 100000
set_option linter.unusedVariables false
set_option maxHeartbeats 1000000
theorem yB:bX Tryz.prog 154=true:=by kernel_rfl
theorem lb_ {a b:Nat} (h:Nat.ble a b=true):a<=b:=Nat.le_of_ble_eq_true h
abbrev SL_:=List (Nat×V)
theorem ag195:bX Tryz.prog 195=true:=by kernel_rfl
theorem Jf:bX Tryz.prog 22=false:=by kernel_rfl
theorem ag26:bX Tryz.prog 26=false:=by kernel_rfl
theorem zW:bX Tryz.prog 29=false:=by kernel_rfl
theorem ag3:bX Tryz.prog 3=false:=by kernel_rfl
theorem EC:bX Tryz.prog 30=false:=by kernel_rfl
theorem jo:bX Tryz.prog 32=true:=by kernel_rfl
theorem ag34:bX Tryz.prog 34=false:=by kernel_rfl
theorem ag4:bX Tryz.prog 4=false:=by kernel_rfl
theorem Du:bX Tryz.prog 53=true:=by kernel_rfl
theorem NP:bX Tryz.prog 80=true:=by kernel_rfl
theorem IE:bX Tryz.prog 82=true:=by kernel_rfl
theorem ag85:bX Tryz.prog 85=true:=by kernel_rfl
theorem ag88:bX Tryz.prog 88=true:=by kernel_rfl
theorem ag9:bX Tryz.prog 9=false:=by kernel_rfl
theorem ag93:bX Tryz.prog 93=true:=by kernel_rfl
theorem M5:fJ Tryz.prog 154=16:=by kernel_rfl
theorem by195:fJ Tryz.prog 195=16:=by kernel_rfl
theorem by22:fJ Tryz.prog 22=24:=by kernel_rfl
theorem by3:fJ Tryz.prog 3=8:=by kernel_rfl
theorem J5:fJ Tryz.prog 32=128:=by kernel_rfl
theorem O5:fJ Tryz.prog 53=32:=by kernel_rfl
theorem by82:fJ Tryz.prog 82=16:=by kernel_rfl
theorem by9:fJ Tryz.prog 9=16:=by kernel_rfl
theorem CX:bK Tryz.prog 149=some 154:=by kernel_rfl
theorem MJ:bK Tryz.prog 162=some 195:=by kernel_rfl
theorem EK:bK Tryz.prog 22=some 3:=by kernel_rfl
theorem yo:bK Tryz.prog 26=some 32:=by kernel_rfl
theorem Ga:bK Tryz.prog 29=some 9:=by kernel_rfl
theorem El:bK Tryz.prog 30=some 53:=by kernel_rfl
theorem el70:bK Tryz.prog 70=some 22:=by kernel_rfl
theorem el76:bK Tryz.prog 76=some 82:=by kernel_rfl
theorem QQ:(bK Tryz.prog 112).bind (szT Tryz.prog)=some 13:=by kernel_rfl
theorem PS:(bK Tryz.prog 118).bind (szT Tryz.prog)=some 8:=by kernel_rfl
theorem Pp:(bK Tryz.prog 122).bind (szT Tryz.prog)=some 3:=by kernel_rfl
theorem mO:(bK Tryz.prog 149).bind (szT Tryz.prog)=some 2:=by kernel_rfl
theorem Bd:(bK Tryz.prog 162).bind (szT Tryz.prog)=some 2:=by kernel_rfl
theorem Pf:(bK Tryz.prog 186).bind (szT Tryz.prog)=some 1:=by kernel_rfl
theorem ni:(bK Tryz.prog 22).bind (szT Tryz.prog)=some 1:=by kernel_rfl
theorem mo:(bK Tryz.prog 26).bind (szT Tryz.prog)=some 9:=by kernel_rfl
theorem nM:(bK Tryz.prog 29).bind (szT Tryz.prog)=some 1:=by kernel_rfl
theorem Au:(bK Tryz.prog 30).bind (szT Tryz.prog)=some 4:=by kernel_rfl
theorem es66:(bK Tryz.prog 66).bind (szT Tryz.prog)=some 1:=by kernel_rfl
theorem Qn:(bK Tryz.prog 70).bind (szT Tryz.prog)=some 1:=by kernel_rfl
theorem es76:(bK Tryz.prog 76).bind (szT Tryz.prog)=some 2:=by kernel_rfl
theorem Nt:(bK Tryz.prog 89).bind (szT Tryz.prog)=some 3:=by kernel_rfl
theorem es99:(bK Tryz.prog 99).bind (szT Tryz.prog)=some 1:=by kernel_rfl
theorem ez112:((bK Tryz.prog 112).bind (zeroCells Tryz.prog)).isSome=true:=by kernel_rfl
theorem ez118:((bK Tryz.prog 118).bind (zeroCells Tryz.prog)).isSome=true:=by kernel_rfl
theorem ez122:((bK Tryz.prog 122).bind (zeroCells Tryz.prog)).isSome=true:=by kernel_rfl
theorem Nn:((bK Tryz.prog 149).bind (zeroCells Tryz.prog)).isSome=true:=by kernel_rfl
theorem ez162:((bK Tryz.prog 162).bind (zeroCells Tryz.prog)).isSome=true:=by kernel_rfl
theorem ez186:((bK Tryz.prog 186).bind (zeroCells Tryz.prog)).isSome=true:=by kernel_rfl
theorem BG:((bK Tryz.prog 22).bind (zeroCells Tryz.prog)).isSome=true:=by kernel_rfl
theorem Iw:((bK Tryz.prog 26).bind (zeroCells Tryz.prog)).isSome=true:=by kernel_rfl
theorem Dr:((bK Tryz.prog 29).bind (zeroCells Tryz.prog)).isSome=true:=by kernel_rfl
theorem PN:((bK Tryz.prog 30).bind (zeroCells Tryz.prog)).isSome=true:=by kernel_rfl
theorem ez66:((bK Tryz.prog 66).bind (zeroCells Tryz.prog)).isSome=true:=by kernel_rfl
theorem ez76:((bK Tryz.prog 76).bind (zeroCells Tryz.prog)).isSome=true:=by kernel_rfl
theorem ez89:((bK Tryz.prog 89).bind (zeroCells Tryz.prog)).isSome=true:=by kernel_rfl
theorem ez99:((bK Tryz.prog 99).bind (zeroCells Tryz.prog)).isSome=true:=by kernel_rfl
theorem hb10:aI Tryz.prog 10=true:=by kernel_rfl
theorem hb100:aI Tryz.prog 100=true:=by kernel_rfl
theorem hb101:aI Tryz.prog 101=true:=by kernel_rfl
theorem hb102:aI Tryz.prog 102=true:=by kernel_rfl
theorem hb103:aI Tryz.prog 103=true:=by kernel_rfl
theorem hb104:aI Tryz.prog 104=true:=by kernel_rfl
theorem hb105:aI Tryz.prog 105=true:=by kernel_rfl
theorem hb106:aI Tryz.prog 106=true:=by kernel_rfl
theorem hb107:aI Tryz.prog 107=true:=by kernel_rfl
theorem hb108:aI Tryz.prog 108=true:=by kernel_rfl
theorem hb109:aI Tryz.prog 109=true:=by kernel_rfl
theorem hb11:aI Tryz.prog 11=true:=by kernel_rfl
theorem hb110:aI Tryz.prog 110=true:=by kernel_rfl
theorem hb111:aI Tryz.prog 111=true:=by kernel_rfl
theorem hb112:aI Tryz.prog 112=true:=by kernel_rfl
theorem hb113:aI Tryz.prog 113=true:=by kernel_rfl
theorem hb114:aI Tryz.prog 114=true:=by kernel_rfl
theorem hb115:aI Tryz.prog 115=true:=by kernel_rfl
theorem hb12:aI Tryz.prog 12=true:=by kernel_rfl
theorem hb121:aI Tryz.prog 121=true:=by kernel_rfl
theorem hb122:aI Tryz.prog 122=true:=by kernel_rfl
theorem hb123:aI Tryz.prog 123=true:=by kernel_rfl
theorem hb13:aI Tryz.prog 13=true:=by kernel_rfl
theorem hb132:aI Tryz.prog 132=true:=by kernel_rfl
theorem hb133:aI Tryz.prog 133=true:=by kernel_rfl
theorem hb135:aI Tryz.prog 135=true:=by kernel_rfl
theorem hb136:aI Tryz.prog 136=true:=by kernel_rfl
theorem hb137:aI Tryz.prog 137=true:=by kernel_rfl
theorem hb138:aI Tryz.prog 138=true:=by kernel_rfl
theorem hb139:aI Tryz.prog 139=true:=by kernel_rfl
theorem hb14:aI Tryz.prog 14=true:=by kernel_rfl
theorem hb140:aI Tryz.prog 140=true:=by kernel_rfl
theorem hb141:aI Tryz.prog 141=true:=by kernel_rfl
theorem hb142:aI Tryz.prog 142=true:=by kernel_rfl
theorem hb145:aI Tryz.prog 145=true:=by kernel_rfl
theorem hb146:aI Tryz.prog 146=true:=by kernel_rfl
theorem hb15:aI Tryz.prog 15=true:=by kernel_rfl
theorem hb16:aI Tryz.prog 16=true:=by kernel_rfl
theorem hb163:aI Tryz.prog 163=true:=by kernel_rfl
theorem hb166:aI Tryz.prog 166=true:=by kernel_rfl
theorem hb167:aI Tryz.prog 167=true:=by kernel_rfl
theorem hb168:aI Tryz.prog 168=true:=by kernel_rfl
theorem hb17:aI Tryz.prog 17=true:=by kernel_rfl
theorem hb18:aI Tryz.prog 18=true:=by kernel_rfl
theorem hb183:aI Tryz.prog 183=true:=by kernel_rfl
theorem hb19:aI Tryz.prog 19=true:=by kernel_rfl
theorem hb20:aI Tryz.prog 20=true:=by kernel_rfl
theorem hb21:aI Tryz.prog 21=true:=by kernel_rfl
theorem hb22:aI Tryz.prog 22=true:=by kernel_rfl
theorem hb23:aI Tryz.prog 23=true:=by kernel_rfl
theorem hb24:aI Tryz.prog 24=true:=by kernel_rfl
theorem hb25:aI Tryz.prog 25=true:=by kernel_rfl
theorem hb26:aI Tryz.prog 26=true:=by kernel_rfl
theorem hb27:aI Tryz.prog 27=true:=by kernel_rfl
theorem hb28:aI Tryz.prog 28=true:=by kernel_rfl
theorem hb29:aI Tryz.prog 29=true:=by kernel_rfl
theorem hb30:aI Tryz.prog 30=true:=by kernel_rfl
theorem hb31:aI Tryz.prog 31=true:=by kernel_rfl
theorem hb32:aI Tryz.prog 32=true:=by kernel_rfl
theorem hb33:aI Tryz.prog 33=true:=by kernel_rfl
theorem hb34:aI Tryz.prog 34=true:=by kernel_rfl
theorem hb35:aI Tryz.prog 35=true:=by kernel_rfl
theorem hb36:aI Tryz.prog 36=true:=by kernel_rfl
theorem hb37:aI Tryz.prog 37=true:=by kernel_rfl
theorem hb38:aI Tryz.prog 38=true:=by kernel_rfl
theorem hb39:aI Tryz.prog 39=true:=by kernel_rfl
theorem hb4:aI Tryz.prog 4=true:=by kernel_rfl
theorem hb40:aI Tryz.prog 40=true:=by kernel_rfl
theorem hb41:aI Tryz.prog 41=true:=by kernel_rfl
theorem hb42:aI Tryz.prog 42=true:=by kernel_rfl
theorem hb43:aI Tryz.prog 43=true:=by kernel_rfl
theorem hb44:aI Tryz.prog 44=true:=by kernel_rfl
theorem hb45:aI Tryz.prog 45=true:=by kernel_rfl
theorem hb46:aI Tryz.prog 46=true:=by kernel_rfl
theorem hb47:aI Tryz.prog 47=true:=by kernel_rfl
theorem hb48:aI Tryz.prog 48=true:=by kernel_rfl
theorem hb49:aI Tryz.prog 49=true:=by kernel_rfl
theorem hb5:aI Tryz.prog 5=true:=by kernel_rfl
theorem hb50:aI Tryz.prog 50=true:=by kernel_rfl
theorem hb51:aI Tryz.prog 51=true:=by kernel_rfl
theorem hb52:aI Tryz.prog 52=true:=by kernel_rfl
theorem hb53:aI Tryz.prog 53=true:=by kernel_rfl
theorem KF:aI Tryz.prog 54=true:=by kernel_rfl
theorem hb55:aI Tryz.prog 55=true:=by kernel_rfl
theorem hb56:aI Tryz.prog 56=true:=by kernel_rfl
theorem hb57:aI Tryz.prog 57=true:=by kernel_rfl
theorem hb58:aI Tryz.prog 58=true:=by kernel_rfl
theorem hb59:aI Tryz.prog 59=true:=by kernel_rfl
theorem hb6:aI Tryz.prog 6=true:=by kernel_rfl
theorem hb60:aI Tryz.prog 60=true:=by kernel_rfl
theorem hb61:aI Tryz.prog 61=true:=by kernel_rfl
theorem hb62:aI Tryz.prog 62=true:=by kernel_rfl
theorem sW:aI Tryz.prog 63=true:=by kernel_rfl
theorem hb64:aI Tryz.prog 64=true:=by kernel_rfl
theorem hb65:aI Tryz.prog 65=true:=by kernel_rfl
theorem hb66:aI Tryz.prog 66=true:=by kernel_rfl
theorem hb67:aI Tryz.prog 67=true:=by kernel_rfl
theorem hb68:aI Tryz.prog 68=true:=by kernel_rfl
theorem hb69:aI Tryz.prog 69=true:=by kernel_rfl
theorem hb7:aI Tryz.prog 7=true:=by kernel_rfl
theorem hb70:aI Tryz.prog 70=true:=by kernel_rfl
theorem hb71:aI Tryz.prog 71=true:=by kernel_rfl
theorem hb72:aI Tryz.prog 72=true:=by kernel_rfl
theorem hb8:aI Tryz.prog 8=true:=by kernel_rfl
theorem hb81:aI Tryz.prog 81=true:=by kernel_rfl
theorem Ep:aI Tryz.prog 82=true:=by kernel_rfl
theorem hb83:aI Tryz.prog 83=true:=by kernel_rfl
theorem hb84:aI Tryz.prog 84=true:=by kernel_rfl
theorem hb85:aI Tryz.prog 85=true:=by kernel_rfl
theorem hb86:aI Tryz.prog 86=true:=by kernel_rfl
theorem hb87:aI Tryz.prog 87=true:=by kernel_rfl
theorem hb88:aI Tryz.prog 88=true:=by kernel_rfl
theorem hb89:aI Tryz.prog 89=true:=by kernel_rfl
theorem hb9:aI Tryz.prog 9=true:=by kernel_rfl
theorem hb90:aI Tryz.prog 90=true:=by kernel_rfl
theorem hb96:aI Tryz.prog 96=true:=by kernel_rfl
theorem hb99:aI Tryz.prog 99=true:=by kernel_rfl
theorem mt59:EI Tryz.prog 59=some (9,32):=by kernel_rfl
theorem mt72:EI Tryz.prog 72=some (3,4):=by kernel_rfl
theorem mt98:EI Tryz.prog 98=some (9,4):=by kernel_rfl
theorem nb124:aI Tryz.prog 124=false:=by kernel_rfl
theorem mg:bS Tryz.prog 154 0=some (0,1):=by kernel_rfl
theorem rX:bS Tryz.prog 154 1=some (1,1):=by kernel_rfl
theorem uG:bS Tryz.prog 195 0=some (0,1):=by kernel_rfl
theorem wR:bS Tryz.prog 195 1=some (1,1):=by kernel_rfl
theorem Ig:bS Tryz.prog 25 0=some (0,1):=by kernel_rfl
theorem Fx:bS Tryz.prog 25 1=some (1,1):=by kernel_rfl
theorem jA:bS Tryz.prog 32 0=some (0,1):=by kernel_rfl
theorem x8:bS Tryz.prog 32 1=some (1,1):=by kernel_rfl
theorem uQ:bS Tryz.prog 32 2=some (2,1):=by kernel_rfl
theorem nJ:bS Tryz.prog 32 3=some (3,1):=by kernel_rfl
theorem kz:bS Tryz.prog 32 4=some (4,1):=by kernel_rfl
theorem Ah:bS Tryz.prog 32 5=some (5,1):=by kernel_rfl
theorem Iy:bS Tryz.prog 32 6=some (6,1):=by kernel_rfl
theorem sI:bS Tryz.prog 32 7=some (7,1):=by kernel_rfl
theorem yK:bS Tryz.prog 32 8=some (8,1):=by kernel_rfl
theorem zR:bS Tryz.prog 53 0=some (0,1):=by kernel_rfl
theorem xA:bS Tryz.prog 53 1=some (1,1):=by kernel_rfl
theorem Ej:bS Tryz.prog 53 2=some (2,1):=by kernel_rfl
theorem BA:bS Tryz.prog 53 3=some (3,1):=by kernel_rfl
theorem KW:bS Tryz.prog 80 0=some (0,1):=by kernel_rfl
theorem pl80_1:bS Tryz.prog 80 1=some (1,1):=by kernel_rfl
theorem pl80_10:bS Tryz.prog 80 10=some (10,1):=by kernel_rfl
theorem pl80_11:bS Tryz.prog 80 11=some (11,1):=by kernel_rfl
theorem pl80_12:bS Tryz.prog 80 12=some (12,1):=by kernel_rfl
theorem pl80_2:bS Tryz.prog 80 2=some (2,1):=by kernel_rfl
theorem Ij:bS Tryz.prog 80 3=some (3,1):=by kernel_rfl
theorem Hy:bS Tryz.prog 80 4=some (4,1):=by kernel_rfl
theorem OX:bS Tryz.prog 80 5=some (5,1):=by kernel_rfl
theorem OP:bS Tryz.prog 80 6=some (6,1):=by kernel_rfl
theorem PY:bS Tryz.prog 80 7=some (7,1):=by kernel_rfl
theorem K7:bS Tryz.prog 80 8=some (8,1):=by kernel_rfl
theorem QP:bS Tryz.prog 80 9=some (9,1):=by kernel_rfl
theorem qw:bS Tryz.prog 82 0=some (0,1):=by kernel_rfl
theorem ql:bS Tryz.prog 82 1=some (1,1):=by kernel_rfl
theorem LZ:bS Tryz.prog 85 0=some (0,1):=by kernel_rfl
theorem Pw:bS Tryz.prog 85 1=some (1,1):=by kernel_rfl
theorem CE:bS Tryz.prog 85 2=some (2,2):=by kernel_rfl
theorem pl85_3:bS Tryz.prog 85 3=some (4,1):=by kernel_rfl
theorem Ma:bS Tryz.prog 85 4=some (5,1):=by kernel_rfl
theorem pl85_5:bS Tryz.prog 85 5=some (6,1):=by kernel_rfl
theorem pl85_6:bS Tryz.prog 85 6=some (7,1):=by kernel_rfl
theorem BB:bS Tryz.prog 88 0=some (0,1):=by kernel_rfl
theorem Fz:bS Tryz.prog 88 1=some (1,1):=by kernel_rfl
theorem FE:bS Tryz.prog 88 2=some (2,1):=by kernel_rfl
theorem KZ:bS Tryz.prog 93 0=some (0,1):=by kernel_rfl
theorem Mi:bS Tryz.prog 93 1=some (1,1):=by kernel_rfl
theorem Lx:bS Tryz.prog 93 2=some (2,1):=by kernel_rfl
theorem oU:szT Tryz.prog 154=some 2:=by kernel_rfl
theorem GK:szT Tryz.prog 195=some 2:=by kernel_rfl
theorem DD:szT Tryz.prog 22=some 1:=by kernel_rfl
theorem sz26:szT Tryz.prog 26=some 1:=by kernel_rfl
theorem xK:szT Tryz.prog 29=some 1:=by kernel_rfl
theorem sz3:szT Tryz.prog 3=some 1:=by kernel_rfl
theorem Ch:szT Tryz.prog 30=some 1:=by kernel_rfl
theorem eO:szT Tryz.prog 32=some 9:=by kernel_rfl
theorem sz34:szT Tryz.prog 34=some 1:=by kernel_rfl
theorem sz4:szT Tryz.prog 4=some 1:=by kernel_rfl
theorem q8:szT Tryz.prog 53=some 4:=by kernel_rfl
theorem KY:szT Tryz.prog 80=some 13:=by kernel_rfl
theorem Aa:szT Tryz.prog 82=some 2:=by kernel_rfl
theorem sz85:szT Tryz.prog 85=some 8:=by kernel_rfl
theorem NK:szT Tryz.prog 88=some 3:=by kernel_rfl
theorem sz9:szT Tryz.prog 9=some 1:=by kernel_rfl
theorem sz93:szT Tryz.prog 93=some 3:=by kernel_rfl
theorem un112:(Tryz.prog).underlying 112=some (.slice 80):=by kernel_rfl
theorem un118:(Tryz.prog).underlying 118=some (.slice 85):=by kernel_rfl
theorem un122:(Tryz.prog).underlying 122=some (.slice 93):=by kernel_rfl
theorem un135:(Tryz.prog).underlying 135=some (.int .u64):=by kernel_rfl
theorem zG:(Tryz.prog).underlying 149=some (.slice 154):=by kernel_rfl
theorem OT:(Tryz.prog).underlying 162=some (.slice 195):=by kernel_rfl
theorem un186:(Tryz.prog).underlying 186=some (.slice 30):=by kernel_rfl
theorem vJ:(Tryz.prog).underlying 22=some (.slice 3):=by kernel_rfl
theorem tq:(Tryz.prog).underlying 26=some (.slice 32):=by kernel_rfl
theorem uT:(Tryz.prog).underlying 29=some (.slice 9):=by kernel_rfl
theorem un3:(Tryz.prog).underlying 3=some (.int .i64):=by kernel_rfl
theorem xL:(Tryz.prog).underlying 30=some (.slice 53):=by kernel_rfl
theorem un4:(Tryz.prog).underlying 4=some .bool:=by kernel_rfl
theorem un5:(Tryz.prog).underlying 5=some (.int .u8):=by kernel_rfl
theorem un57:(Tryz.prog).underlying 57=some (.array 2 26):=by kernel_rfl
theorem un66:(Tryz.prog).underlying 66=some (.slice 34):=by kernel_rfl
theorem un76:(Tryz.prog).underlying 76=some (.slice 82):=by kernel_rfl
theorem un89:(Tryz.prog).underlying 89=some (.slice 88):=by kernel_rfl
theorem un9:(Tryz.prog).underlying 9=some .string:=by kernel_rfl
theorem Ov:(Tryz.prog).underlying 96=some (.int .u64):=by kernel_rfl
theorem un99:(Tryz.prog).underlying 99=some (.slice 26):=by kernel_rfl
theorem z154:zeroCells Tryz.prog 154=some [.d (.int .i64 0),.d (.int .i64 0)]:=by kernel_rfl
theorem z195:zeroCells Tryz.prog 195=some [.d (.int .i64 0),.d (.int .i64 0)]:=by kernel_rfl
theorem z22:zeroCells Tryz.prog 22=some [.nil]:=by kernel_rfl
theorem z3:zeroCells Tryz.prog 3=some [.d (.int .i64 0)]:=by kernel_rfl
theorem z32:zeroCells Tryz.prog 32=some [.d (.str ⟨#[]⟩),.d (.str ⟨#[]⟩),.d (.int .i64 0),.nil,.d (.int .i64 0),.d (.int .i64 0),.d (.int .i64 0),.nil,.d (.str ⟨#[]⟩)]:=by kernel_rfl
theorem z53:zeroCells Tryz.prog 53=some [.d (.int .i64 0),.d (.int .i64 0),.d (.int .i64 0),.d (.int .i64 0)]:=by kernel_rfl
theorem z80:zeroCells Tryz.prog 80=some [.d (.str ⟨#[]⟩),.d (.str ⟨#[]⟩),.d (.int .i64 0),.d (.int .i64 0),.d (.int .i64 0),.d (.int .i64 0),.d (.int .i64 0),.nil,.d (.int .i64 0),.d (.int .i64 0),.d (.int .i64 0),.nil,.d (.bool false)]:=by kernel_rfl
theorem z82:zeroCells Tryz.prog 82=some [.d (.int .i64 0),.d (.int .i64 0)]:=by kernel_rfl
theorem z85:zeroCells Tryz.prog 85=some [.d (.str ⟨#[]⟩),.d (.str ⟨#[]⟩),.d (.int .i64 0),.d (.int .i64 0),.nil,.d (.int .i64 0),.d (.int .i64 0),.d (.int .i64 0)]:=by kernel_rfl
theorem z88:zeroCells Tryz.prog 88=some [.d (.str ⟨#[]⟩),.d (.int .i64 0),.d (.int .i64 0)]:=by kernel_rfl
theorem z9:zeroCells Tryz.prog 9=some [.d (.str ⟨#[]⟩)]:=by kernel_rfl
theorem z93:zeroCells Tryz.prog 93=some [.d (.str ⟨#[]⟩),.d (.int .i64 0),.d (.int .i64 0)]:=by kernel_rfl
theorem K5 : ∀ w, Go.Eng.zx w → Go.Lib.TabIs Go.Proofs.Tryz.prog w "internal/strconv.uint64pow10" .u64 Go.Lib.pow10Tab := fun _ h => h.1
theorem JL:∀w,Go.Eng.zx w->(∃m,w.cell? ⟨0,0,none⟩=some (.int .i64 m)):=λ_ h=>h.2.1
theorem NZ:∀w,Go.Eng.zx w->Go.Lib.Utf8Tabs 1 2 w:=λ_ h=>h.2.2
end Go.Proofs.YtkjlhdminmpmkabGreatDoor.Law

