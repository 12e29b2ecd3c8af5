/-
  Closed facts on the types and functions of the program.
-/
import Derived.Test.YticmkhcacamhkaaGreatDoorProg
import Derived.Test.YticmkhcacamhkaaGreatDoorEng5
open Go Go.Eng Go.Proofs
namespace Go.Proofs.YticmkhcacamhkaaGreatDoor.Law
set_option maxRecDepth 100000
set_option linter.unusedVariables false
set_option maxHeartbeats 1000000
theorem yh:cO Tryz.prog 146=true:=by kernel_rfl
theorem lb_ {a b:Nat} (h:Nat.ble a b=true):a<=b:=Nat.le_of_ble_eq_true h
abbrev SL_:=List (Nat×V)
theorem ag183:cO Tryz.prog 183=true:=by kernel_rfl
theorem BI:cO Tryz.prog 22=false:=by kernel_rfl
theorem ag3:cO Tryz.prog 3=false:=by kernel_rfl
theorem Nu:cO Tryz.prog 30=true:=by kernel_rfl
theorem qI:cO Tryz.prog 34=true:=by kernel_rfl
theorem ag4:cO Tryz.prog 4=false:=by kernel_rfl
theorem A8:cO Tryz.prog 40=false:=by kernel_rfl
theorem IE:cO Tryz.prog 42=true:=by kernel_rfl
theorem ag45:cO Tryz.prog 45=true:=by kernel_rfl
theorem KE:cO Tryz.prog 50=false:=by kernel_rfl
theorem qZ:cO Tryz.prog 52=true:=by kernel_rfl
theorem Io:cO Tryz.prog 55=true:=by kernel_rfl
theorem BD:cO Tryz.prog 61=true:=by kernel_rfl
theorem ag73:cO Tryz.prog 73=true:=by kernel_rfl
theorem ag76:cO Tryz.prog 76=true:=by kernel_rfl
theorem ag9:cO Tryz.prog 9=false:=by kernel_rfl
theorem ag97:cO Tryz.prog 97=false:=by kernel_rfl
theorem Ck:cO Tryz.prog 99=true:=by kernel_rfl
theorem MB:iW Tryz.prog 146=16:=by kernel_rfl
theorem by183:iW Tryz.prog 183=16:=by kernel_rfl
theorem by3:iW Tryz.prog 3=8:=by kernel_rfl
theorem by34:iW Tryz.prog 34=16:=by kernel_rfl
theorem by45:iW Tryz.prog 45=32:=by kernel_rfl
theorem by52:iW Tryz.prog 52=128:=by kernel_rfl
theorem by55:iW Tryz.prog 55=32:=by kernel_rfl
theorem by61:iW Tryz.prog 61=152:=by kernel_rfl
theorem by9:iW Tryz.prog 9=16:=by kernel_rfl
theorem by99:iW Tryz.prog 99=24:=by kernel_rfl
theorem CF:bZ Tryz.prog 141=some 146:=by kernel_rfl
theorem Md:bZ Tryz.prog 150=some 183:=by kernel_rfl
theorem DY:bZ Tryz.prog 22=some 3:=by kernel_rfl
theorem el26:bZ Tryz.prog 26=some 52:=by kernel_rfl
theorem el31:bZ Tryz.prog 31=some 61:=by kernel_rfl
theorem el35:bZ Tryz.prog 35=some 45:=by kernel_rfl
theorem el40:bZ Tryz.prog 40=some 9:=by kernel_rfl
theorem IP:bZ Tryz.prog 50=some 55:=by kernel_rfl
theorem el78:bZ Tryz.prog 78=some 34:=by kernel_rfl
theorem KL:bZ Tryz.prog 94=some 99:=by kernel_rfl
theorem PY:(bZ Tryz.prog 109).bind (szT Tryz.prog)=some 8:=by kernel_rfl
theorem mV:(bZ Tryz.prog 141).bind (szT Tryz.prog)=some 2:=by kernel_rfl
theorem Bb:(bZ Tryz.prog 150).bind (szT Tryz.prog)=some 2:=by kernel_rfl
theorem Pg:(bZ Tryz.prog 177).bind (szT Tryz.prog)=some 1:=by kernel_rfl
theorem jf:(bZ Tryz.prog 22).bind (szT Tryz.prog)=some 1:=by kernel_rfl
theorem uo:(bZ Tryz.prog 26).bind (szT Tryz.prog)=some 9:=by kernel_rfl
theorem F3:(bZ Tryz.prog 31).bind (szT Tryz.prog)=some 13:=by kernel_rfl
theorem Jo:(bZ Tryz.prog 35).bind (szT Tryz.prog)=some 3:=by kernel_rfl
theorem qy:(bZ Tryz.prog 40).bind (szT Tryz.prog)=some 1:=by kernel_rfl
theorem Iu:(bZ Tryz.prog 50).bind (szT Tryz.prog)=some 4:=by kernel_rfl
theorem es63:(bZ Tryz.prog 63).bind (szT Tryz.prog)=some 3:=by kernel_rfl
theorem es68:(bZ Tryz.prog 68).bind (szT Tryz.prog)=some 1:=by kernel_rfl
theorem Nz:(bZ Tryz.prog 77).bind (szT Tryz.prog)=some 3:=by kernel_rfl
theorem MU:(bZ Tryz.prog 78).bind (szT Tryz.prog)=some 2:=by kernel_rfl
theorem BL:(bZ Tryz.prog 94).bind (szT Tryz.prog)=some 3:=by kernel_rfl
theorem ez109:((bZ Tryz.prog 109).bind (zeroCells Tryz.prog)).isSome=true:=by kernel_rfl
theorem MK:((bZ Tryz.prog 141).bind (zeroCells Tryz.prog)).isSome=true:=by kernel_rfl
theorem ez150:((bZ Tryz.prog 150).bind (zeroCells Tryz.prog)).isSome=true:=by kernel_rfl
theorem ez177:((bZ Tryz.prog 177).bind (zeroCells Tryz.prog)).isSome=true:=by kernel_rfl
theorem uh:((bZ Tryz.prog 22).bind (zeroCells Tryz.prog)).isSome=true:=by kernel_rfl
theorem ez26:((bZ Tryz.prog 26).bind (zeroCells Tryz.prog)).isSome=true:=by kernel_rfl
theorem ez31:((bZ Tryz.prog 31).bind (zeroCells Tryz.prog)).isSome=true:=by kernel_rfl
theorem ez35:((bZ Tryz.prog 35).bind (zeroCells Tryz.prog)).isSome=true:=by kernel_rfl
theorem Cc:((bZ Tryz.prog 40).bind (zeroCells Tryz.prog)).isSome=true:=by kernel_rfl
theorem ez50:((bZ Tryz.prog 50).bind (zeroCells Tryz.prog)).isSome=true:=by kernel_rfl
theorem ez63:((bZ Tryz.prog 63).bind (zeroCells Tryz.prog)).isSome=true:=by kernel_rfl
theorem ez68:((bZ Tryz.prog 68).bind (zeroCells Tryz.prog)).isSome=true:=by kernel_rfl
theorem ez77:((bZ Tryz.prog 77).bind (zeroCells Tryz.prog)).isSome=true:=by kernel_rfl
theorem ez78:((bZ Tryz.prog 78).bind (zeroCells Tryz.prog)).isSome=true:=by kernel_rfl
theorem ez94:((bZ Tryz.prog 94).bind (zeroCells Tryz.prog)).isSome=true:=by kernel_rfl
theorem fr99_0:Ip Tryz.prog 99 0=some (0,1,false):=by kernel_rfl
theorem hb10:aK Tryz.prog 10=true:=by kernel_rfl
theorem hb100:aK Tryz.prog 100=true:=by kernel_rfl
theorem hb101:aK Tryz.prog 101=true:=by kernel_rfl
theorem hb102:aK Tryz.prog 102=true:=by kernel_rfl
theorem hb103:aK Tryz.prog 103=true:=by kernel_rfl
theorem hb11:aK Tryz.prog 11=true:=by kernel_rfl
theorem hb110:aK Tryz.prog 110=true:=by kernel_rfl
theorem hb113:aK Tryz.prog 113=true:=by kernel_rfl
theorem hb114:aK Tryz.prog 114=true:=by kernel_rfl
theorem hb115:aK Tryz.prog 115=true:=by kernel_rfl
theorem hb116:aK Tryz.prog 116=true:=by kernel_rfl
theorem hb117:aK Tryz.prog 117=true:=by kernel_rfl
theorem El:aK Tryz.prog 12=true:=by kernel_rfl
theorem hb126:aK Tryz.prog 126=true:=by kernel_rfl
theorem hb127:aK Tryz.prog 127=true:=by kernel_rfl
theorem hb128:aK Tryz.prog 128=true:=by kernel_rfl
theorem hb129:aK Tryz.prog 129=true:=by kernel_rfl
theorem PO:aK Tryz.prog 13=true:=by kernel_rfl
theorem hb130:aK Tryz.prog 130=true:=by kernel_rfl
theorem hb131:aK Tryz.prog 131=true:=by kernel_rfl
theorem hb133:aK Tryz.prog 133=true:=by kernel_rfl
theorem hb134:aK Tryz.prog 134=true:=by kernel_rfl
theorem hb135:aK Tryz.prog 135=true:=by kernel_rfl
theorem hb139:aK Tryz.prog 139=true:=by kernel_rfl
theorem hb14:aK Tryz.prog 14=true:=by kernel_rfl
theorem hb140:aK Tryz.prog 140=true:=by kernel_rfl
theorem hb141:aK Tryz.prog 141=true:=by kernel_rfl
theorem hb142:aK Tryz.prog 142=true:=by kernel_rfl
theorem hb147:aK Tryz.prog 147=true:=by kernel_rfl
theorem hb148:aK Tryz.prog 148=true:=by kernel_rfl
theorem EK:aK Tryz.prog 149=true:=by kernel_rfl
theorem hb15:aK Tryz.prog 15=true:=by kernel_rfl
theorem hb150:aK Tryz.prog 150=true:=by kernel_rfl
theorem hb151:aK Tryz.prog 151=true:=by kernel_rfl
theorem hb159:aK Tryz.prog 159=true:=by kernel_rfl
theorem hb16:aK Tryz.prog 16=true:=by kernel_rfl
theorem hb161:aK Tryz.prog 161=true:=by kernel_rfl
theorem OQ:aK Tryz.prog 17=true:=by kernel_rfl
theorem hb18:aK Tryz.prog 18=true:=by kernel_rfl
theorem rA:aK Tryz.prog 19=true:=by kernel_rfl
theorem hb20:aK Tryz.prog 20=true:=by kernel_rfl
theorem hb21:aK Tryz.prog 21=true:=by kernel_rfl
theorem hb22:aK Tryz.prog 22=true:=by kernel_rfl
theorem hb23:aK Tryz.prog 23=true:=by kernel_rfl
theorem hb24:aK Tryz.prog 24=true:=by kernel_rfl
theorem hb25:aK Tryz.prog 25=true:=by kernel_rfl
theorem hb26:aK Tryz.prog 26=true:=by kernel_rfl
theorem hb27:aK Tryz.prog 27=true:=by kernel_rfl
theorem hb28:aK Tryz.prog 28=true:=by kernel_rfl
theorem hb29:aK Tryz.prog 29=true:=by kernel_rfl
theorem hb30:aK Tryz.prog 30=true:=by kernel_rfl
theorem hb31:aK Tryz.prog 31=true:=by kernel_rfl
theorem hb32:aK Tryz.prog 32=true:=by kernel_rfl
theorem hb33:aK Tryz.prog 33=true:=by kernel_rfl
theorem hb34:aK Tryz.prog 34=true:=by kernel_rfl
theorem hb35:aK Tryz.prog 35=true:=by kernel_rfl
theorem hb36:aK Tryz.prog 36=true:=by kernel_rfl
theorem hb37:aK Tryz.prog 37=true:=by kernel_rfl
theorem hb38:aK Tryz.prog 38=true:=by kernel_rfl
theorem hb39:aK Tryz.prog 39=true:=by kernel_rfl
theorem hb4:aK Tryz.prog 4=true:=by kernel_rfl
theorem hb40:aK Tryz.prog 40=true:=by kernel_rfl
theorem hb41:aK Tryz.prog 41=true:=by kernel_rfl
theorem Lu:aK Tryz.prog 42=true:=by kernel_rfl
theorem hb43:aK Tryz.prog 43=true:=by kernel_rfl
theorem hb44:aK Tryz.prog 44=true:=by kernel_rfl
theorem hb45:aK Tryz.prog 45=true:=by kernel_rfl
theorem hb46:aK Tryz.prog 46=true:=by kernel_rfl
theorem hb47:aK Tryz.prog 47=true:=by kernel_rfl
theorem hb48:aK Tryz.prog 48=true:=by kernel_rfl
theorem hb49:aK Tryz.prog 49=true:=by kernel_rfl
theorem hb5:aK Tryz.prog 5=true:=by kernel_rfl
theorem hb50:aK Tryz.prog 50=true:=by kernel_rfl
theorem hb51:aK Tryz.prog 51=true:=by kernel_rfl
theorem Lb:aK Tryz.prog 52=true:=by kernel_rfl
theorem hb53:aK Tryz.prog 53=true:=by kernel_rfl
theorem hb54:aK Tryz.prog 54=true:=by kernel_rfl
theorem hb55:aK Tryz.prog 55=true:=by kernel_rfl
theorem hb56:aK Tryz.prog 56=true:=by kernel_rfl
theorem hb57:aK Tryz.prog 57=true:=by kernel_rfl
theorem hb6:aK Tryz.prog 6=true:=by kernel_rfl
theorem hb66:aK Tryz.prog 66=true:=by kernel_rfl
theorem hb67:aK Tryz.prog 67=true:=by kernel_rfl
theorem hb68:aK Tryz.prog 68=true:=by kernel_rfl
theorem BJ:aK Tryz.prog 69=true:=by kernel_rfl
theorem hb7:aK Tryz.prog 7=true:=by kernel_rfl
theorem hb70:aK Tryz.prog 70=true:=by kernel_rfl
theorem hb72:aK Tryz.prog 72=true:=by kernel_rfl
theorem hb73:aK Tryz.prog 73=true:=by kernel_rfl
theorem hb74:aK Tryz.prog 74=true:=by kernel_rfl
theorem hb75:aK Tryz.prog 75=true:=by kernel_rfl
theorem hb76:aK Tryz.prog 76=true:=by kernel_rfl
theorem hb77:aK Tryz.prog 77=true:=by kernel_rfl
theorem hb79:aK Tryz.prog 79=true:=by kernel_rfl
theorem hb8:aK Tryz.prog 8=true:=by kernel_rfl
theorem hb80:aK Tryz.prog 80=true:=by kernel_rfl
theorem hb81:aK Tryz.prog 81=true:=by kernel_rfl
theorem hb82:aK Tryz.prog 82=true:=by kernel_rfl
theorem hb83:aK Tryz.prog 83=true:=by kernel_rfl
theorem hb84:aK Tryz.prog 84=true:=by kernel_rfl
theorem hb85:aK Tryz.prog 85=true:=by kernel_rfl
theorem hb86:aK Tryz.prog 86=true:=by kernel_rfl
theorem hb87:aK Tryz.prog 87=true:=by kernel_rfl
theorem hb88:aK Tryz.prog 88=true:=by kernel_rfl
theorem hb89:aK Tryz.prog 89=true:=by kernel_rfl
theorem hb9:aK Tryz.prog 9=true:=by kernel_rfl
theorem hb90:aK Tryz.prog 90=true:=by kernel_rfl
theorem hb91:aK Tryz.prog 91=true:=by kernel_rfl
theorem hb92:aK Tryz.prog 92=true:=by kernel_rfl
theorem hb93:aK Tryz.prog 93=true:=by kernel_rfl
theorem hb94:aK Tryz.prog 94=true:=by kernel_rfl
theorem mt127:J4 Tryz.prog 127=some (9,4):=by kernel_rfl
theorem nb146:aK Tryz.prog 146=false:=by kernel_rfl
theorem mM:bN Tryz.prog 146 0=some (0,1):=by kernel_rfl
theorem sH:bN Tryz.prog 146 1=some (1,1):=by kernel_rfl
theorem uy:bN Tryz.prog 183 0=some (0,1):=by kernel_rfl
theorem wV:bN Tryz.prog 183 1=some (1,1):=by kernel_rfl
theorem Ho:bN Tryz.prog 25 0=some (0,1):=by kernel_rfl
theorem Er:bN Tryz.prog 25 1=some (1,1):=by kernel_rfl
theorem Lj:bN Tryz.prog 30 0=some (0,1):=by kernel_rfl
theorem Lt:bN Tryz.prog 30 1=some (1,1):=by kernel_rfl
theorem LD:bN Tryz.prog 30 2=some (2,1):=by kernel_rfl
theorem ib:bN Tryz.prog 34 0=some (0,1):=by kernel_rfl
theorem iq:bN Tryz.prog 34 1=some (1,1):=by kernel_rfl
theorem pl42_0:bN Tryz.prog 42 0=some (0,1):=by kernel_rfl
theorem pl42_1:bN Tryz.prog 42 1=some (1,1):=by kernel_rfl
theorem Ls:bN Tryz.prog 42 2=some (2,1):=by kernel_rfl
theorem O6:bN Tryz.prog 42 3=some (3,1):=by kernel_rfl
theorem Ca:bN Tryz.prog 45 0=some (0,2):=by kernel_rfl
theorem PM:bN Tryz.prog 45 1=some (2,1):=by kernel_rfl
theorem rO:bN Tryz.prog 52 0=some (0,1):=by kernel_rfl
theorem KF:bN Tryz.prog 52 1=some (1,1):=by kernel_rfl
theorem BA:bN Tryz.prog 52 2=some (2,1):=by kernel_rfl
theorem wy:bN Tryz.prog 52 3=some (3,1):=by kernel_rfl
theorem oL:bN Tryz.prog 52 4=some (4,1):=by kernel_rfl
theorem Lv:bN Tryz.prog 52 5=some (5,1):=by kernel_rfl
theorem K4:bN Tryz.prog 52 6=some (6,1):=by kernel_rfl
theorem Cy:bN Tryz.prog 52 7=some (7,1):=by kernel_rfl
theorem Hf:bN Tryz.prog 52 8=some (8,1):=by kernel_rfl
theorem Cg:bN Tryz.prog 55 0=some (0,1):=by kernel_rfl
theorem yl:bN Tryz.prog 55 1=some (1,1):=by kernel_rfl
theorem IG:bN Tryz.prog 55 2=some (2,1):=by kernel_rfl
theorem Fe:bN Tryz.prog 55 3=some (3,1):=by kernel_rfl
theorem BX:bN Tryz.prog 61 0=some (0,1):=by kernel_rfl
theorem pl61_1:bN Tryz.prog 61 1=some (1,1):=by kernel_rfl
theorem IW:bN Tryz.prog 61 10=some (10,1):=by kernel_rfl
theorem DI:bN Tryz.prog 61 11=some (11,1):=by kernel_rfl
theorem Me:bN Tryz.prog 61 12=some (12,1):=by kernel_rfl
theorem pl61_2:bN Tryz.prog 61 2=some (2,1):=by kernel_rfl
theorem BG:bN Tryz.prog 61 3=some (3,1):=by kernel_rfl
theorem Cx:bN Tryz.prog 61 4=some (4,1):=by kernel_rfl
theorem O4:bN Tryz.prog 61 5=some (5,1):=by kernel_rfl
theorem Pb:bN Tryz.prog 61 6=some (6,1):=by kernel_rfl
theorem H8:bN Tryz.prog 61 7=some (7,1):=by kernel_rfl
theorem Kw:bN Tryz.prog 61 8=some (8,1):=by kernel_rfl
theorem P8:bN Tryz.prog 61 9=some (9,1):=by kernel_rfl
theorem Kz:bN Tryz.prog 73 0=some (0,1):=by kernel_rfl
theorem Po:bN Tryz.prog 73 1=some (1,1):=by kernel_rfl
theorem Ch:bN Tryz.prog 73 2=some (2,2):=by kernel_rfl
theorem pl73_3:bN Tryz.prog 73 3=some (4,1):=by kernel_rfl
theorem KW:bN Tryz.prog 73 4=some (5,1):=by kernel_rfl
theorem pl73_5:bN Tryz.prog 73 5=some (6,1):=by kernel_rfl
theorem pl73_6:bN Tryz.prog 73 6=some (7,1):=by kernel_rfl
theorem BQ:bN Tryz.prog 76 0=some (0,1):=by kernel_rfl
theorem EO:bN Tryz.prog 76 1=some (1,1):=by kernel_rfl
theorem DW:bN Tryz.prog 76 2=some (2,1):=by kernel_rfl
theorem Ia:bN Tryz.prog 99 0=some (0,1):=by kernel_rfl
theorem Ai:bN Tryz.prog 99 1=some (1,2):=by kernel_rfl
theorem oQ:szT Tryz.prog 146=some 2:=by kernel_rfl
theorem Gp:szT Tryz.prog 183=some 2:=by kernel_rfl
theorem zK:szT Tryz.prog 22=some 1:=by kernel_rfl
theorem sz3:szT Tryz.prog 3=some 1:=by kernel_rfl
theorem Kb:szT Tryz.prog 30=some 3:=by kernel_rfl
theorem lT:szT Tryz.prog 34=some 2:=by kernel_rfl
theorem sz4:szT Tryz.prog 4=some 1:=by kernel_rfl
theorem xU:szT Tryz.prog 40=some 1:=by kernel_rfl
theorem F4:szT Tryz.prog 42=some 4:=by kernel_rfl
theorem Nt:szT Tryz.prog 45=some 3:=by kernel_rfl
theorem JZ:szT Tryz.prog 50=some 1:=by kernel_rfl
theorem lL:szT Tryz.prog 52=some 9:=by kernel_rfl
theorem vH:szT Tryz.prog 55=some 4:=by kernel_rfl
theorem zi:szT Tryz.prog 61=some 13:=by kernel_rfl
theorem sz73:szT Tryz.prog 73=some 8:=by kernel_rfl
theorem Nr:szT Tryz.prog 76=some 3:=by kernel_rfl
theorem sz9:szT Tryz.prog 9=some 1:=by kernel_rfl
theorem sz97:szT Tryz.prog 97=some 1:=by kernel_rfl
theorem rP:szT Tryz.prog 99=some 3:=by kernel_rfl
theorem un109:(Tryz.prog).underlying 109=some (.slice 73):=by kernel_rfl
theorem Ay:(Tryz.prog).underlying 125=some (.int .u64):=by kernel_rfl
theorem zG:(Tryz.prog).underlying 141=some (.slice 146):=by kernel_rfl
theorem Pw:(Tryz.prog).underlying 150=some (.slice 183):=by kernel_rfl
theorem un177:(Tryz.prog).underlying 177=some (.slice 50):=by kernel_rfl
theorem wO:(Tryz.prog).underlying 22=some (.slice 3):=by kernel_rfl
theorem FP:(Tryz.prog).underlying 26=some (.slice 52):=by kernel_rfl
theorem un3:(Tryz.prog).underlying 3=some (.int .i64):=by kernel_rfl
theorem un31:(Tryz.prog).underlying 31=some (.slice 61):=by kernel_rfl
theorem un35:(Tryz.prog).underlying 35=some (.slice 45):=by kernel_rfl
theorem un4:(Tryz.prog).underlying 4=some .bool:=by kernel_rfl
theorem yY:(Tryz.prog).underlying 40=some (.slice 9):=by kernel_rfl
theorem un5:(Tryz.prog).underlying 5=some (.int .u8):=by kernel_rfl
theorem BB:(Tryz.prog).underlying 50=some (.slice 55):=by kernel_rfl
theorem un63:(Tryz.prog).underlying 63=some (.slice 30):=by kernel_rfl
theorem un77:(Tryz.prog).underlying 77=some (.slice 76):=by kernel_rfl
theorem un78:(Tryz.prog).underlying 78=some (.slice 34):=by kernel_rfl
theorem K8:(Tryz.prog).underlying 83=some (.int .u64):=by kernel_rfl
theorem un87:(Tryz.prog).underlying 87=some (.array 2 3):=by kernel_rfl
theorem un9:(Tryz.prog).underlying 9=some .string:=by kernel_rfl
theorem Ee:(Tryz.prog).underlying 94=some (.slice 99):=by kernel_rfl
theorem z146:zeroCells Tryz.prog 146=some [.d (.int .i64 0),.d (.int .i64 0)]:=by kernel_rfl
theorem z183:zeroCells Tryz.prog 183=some [.d (.int .i64 0),.d (.int .i64 0)]:=by kernel_rfl
theorem z22:zeroCells Tryz.prog 22=some [.nil]:=by kernel_rfl
theorem z3:zeroCells Tryz.prog 3=some [.d (.int .i64 0)]:=by kernel_rfl
theorem z30:zeroCells Tryz.prog 30=some [.d (.str ⟨#[]⟩),.d (.int .i64 0),.d (.int .i64 0)]:=by kernel_rfl
theorem z34:zeroCells Tryz.prog 34=some [.d (.int .i64 0),.d (.int .i64 0)]:=by kernel_rfl
theorem z42:zeroCells Tryz.prog 42=some [.d (.str ⟨#[]⟩),.d (.str ⟨#[]⟩),.d (.int .i64 0),.nil]:=by kernel_rfl
theorem z45:zeroCells Tryz.prog 45=some [.d (.int .i64 0),.d (.int .i64 0),.d (.str ⟨#[]⟩)]:=by kernel_rfl
theorem z52:zeroCells Tryz.prog 52=some [.d (.str ⟨#[]⟩),.d (.str ⟨#[]⟩),.d (.int .i64 0),.nil,.d (.int .i64 0),.d (.int .i64 0),.d (.int .i64 0),.nil,.d (.str ⟨#[]⟩)]:=by kernel_rfl
theorem z55:zeroCells Tryz.prog 55=some [.d (.int .i64 0),.d (.int .i64 0),.d (.int .i64 0),.d (.int .i64 0)]:=by kernel_rfl
theorem z61:zeroCells Tryz.prog 61=some [.d (.str ⟨#[]⟩),.d (.str ⟨#[]⟩),.d (.int .i64 0),.d (.int .i64 0),.d (.int .i64 0),.d (.int .i64 0),.d (.int .i64 0),.nil,.d (.int .i64 0),.d (.int .i64 0),.d (.int .i64 0),.nil,.d (.bool false)]:=by kernel_rfl
theorem z73:zeroCells Tryz.prog 73=some [.d (.str ⟨#[]⟩),.d (.str ⟨#[]⟩),.d (.int .i64 0),.d (.int .i64 0),.nil,.d (.int .i64 0),.d (.int .i64 0),.d (.int .i64 0)]:=by kernel_rfl
theorem z76:zeroCells Tryz.prog 76=some [.d (.str ⟨#[]⟩),.d (.int .i64 0),.d (.int .i64 0)]:=by kernel_rfl
theorem z9:zeroCells Tryz.prog 9=some [.d (.str ⟨#[]⟩)]:=by kernel_rfl
theorem z99:zeroCells Tryz.prog 99=some [.d .nilp,.d (.int .i64 0),.d (.int .i64 0)]:=by kernel_rfl
theorem J3:∀w0,Go.Eng.MI w0->∃m,w0.cell? ⟨0,0,none⟩=some (.int .i64 m):=λ_ h=>h
end Go.Proofs.YticmkhcacamhkaaGreatDoor.Law

