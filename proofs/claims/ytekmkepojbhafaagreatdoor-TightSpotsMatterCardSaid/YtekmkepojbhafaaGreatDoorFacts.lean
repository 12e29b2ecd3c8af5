/-
  Closed facts on the types and functions of the program.
-/
import Derived.Test.YtekmkepojbhafaaGreatDoorProg
import Derived.Test.YtekmkepojbhafaaGreatDoorEng5
open Go Go.Eng Go.Proofs
namespace Go.Proofs.YtekmkepojbhafaaGreatDoor.Law
set_option maxRecDepth 100000
set_option linter.unusedVariables false
set_option maxHeartbeats 1000000
theorem vF:bO Tryz.prog 114=true:=by kernel_rfl
theorem lb_ {a b:Nat} (h:Nat.ble a b=true):a<=b:=Nat.le_of_ble_eq_true h
abbrev SL_:=List (Nat×V)
theorem ag139:bO Tryz.prog 139=true:=by kernel_rfl
theorem zS:bO Tryz.prog 22=false:=by kernel_rfl
theorem ag3:bO Tryz.prog 3=false:=by kernel_rfl
theorem BP:bO Tryz.prog 30=false:=by kernel_rfl
theorem ag31:bO Tryz.prog 31=false:=by kernel_rfl
theorem DK:bO Tryz.prog 37=true:=by kernel_rfl
theorem IM:bO Tryz.prog 39=true:=by kernel_rfl
theorem ag4:bO Tryz.prog 4=false:=by kernel_rfl
theorem KS:bO Tryz.prog 48=true:=by kernel_rfl
theorem Gt:bO Tryz.prog 54=true:=by kernel_rfl
theorem Lx:bO Tryz.prog 55=false:=by kernel_rfl
theorem KW:bO Tryz.prog 60=true:=by kernel_rfl
theorem ag64:bO Tryz.prog 64=true:=by kernel_rfl
theorem FE:bO Tryz.prog 67=true:=by kernel_rfl
theorem ag71:bO Tryz.prog 71=true:=by kernel_rfl
theorem ag9:bO Tryz.prog 9=false:=by kernel_rfl
theorem DC:bO Tryz.prog 99=false:=by kernel_rfl
theorem Kz:dW Tryz.prog 114=16:=by kernel_rfl
theorem by139:dW Tryz.prog 139=16:=by kernel_rfl
theorem by22:dW Tryz.prog 22=24:=by kernel_rfl
theorem by3:dW Tryz.prog 3=8:=by kernel_rfl
theorem by37:dW Tryz.prog 37=16:=by kernel_rfl
theorem by39:dW Tryz.prog 39=64:=by kernel_rfl
theorem by48:dW Tryz.prog 48=96:=by kernel_rfl
theorem by54:dW Tryz.prog 54=32:=by kernel_rfl
theorem by9:dW Tryz.prog 9=16:=by kernel_rfl
theorem Ai:bG Tryz.prog 109=some 114:=by kernel_rfl
theorem JR:bG Tryz.prog 120=some 139:=by kernel_rfl
theorem I9:bG Tryz.prog 22=some 3:=by kernel_rfl
theorem el26:bG Tryz.prog 26=some 39:=by kernel_rfl
theorem el28:bG Tryz.prog 28=some 48:=by kernel_rfl
theorem KM:bG Tryz.prog 30=some 9:=by kernel_rfl
theorem Jo:bG Tryz.prog 55=some 54:=by kernel_rfl
theorem el56:bG Tryz.prog 56=some 37:=by kernel_rfl
theorem el99:bG Tryz.prog 99=some 22:=by kernel_rfl
theorem lv:(bG Tryz.prog 109).bind (szT Tryz.prog)=some 2:=by kernel_rfl
theorem yw:(bG Tryz.prog 120).bind (szT Tryz.prog)=some 2:=by kernel_rfl
theorem L9:(bG Tryz.prog 128).bind (szT Tryz.prog)=some 1:=by kernel_rfl
theorem ik:(bG Tryz.prog 22).bind (szT Tryz.prog)=some 1:=by kernel_rfl
theorem AO:(bG Tryz.prog 26).bind (szT Tryz.prog)=some 5:=by kernel_rfl
theorem LJ:(bG Tryz.prog 28).bind (szT Tryz.prog)=some 8:=by kernel_rfl
theorem ru:(bG Tryz.prog 30).bind (szT Tryz.prog)=some 1:=by kernel_rfl
theorem EM:(bG Tryz.prog 55).bind (szT Tryz.prog)=some 4:=by kernel_rfl
theorem es56:(bG Tryz.prog 56).bind (szT Tryz.prog)=some 2:=by kernel_rfl
theorem Lv:(bG Tryz.prog 65).bind (szT Tryz.prog)=some 3:=by kernel_rfl
theorem es83:(bG Tryz.prog 83).bind (szT Tryz.prog)=some 13:=by kernel_rfl
theorem es91:(bG Tryz.prog 91).bind (szT Tryz.prog)=some 9:=by kernel_rfl
theorem es92:(bG Tryz.prog 92).bind (szT Tryz.prog)=some 3:=by kernel_rfl
theorem es94:(bG Tryz.prog 94).bind (szT Tryz.prog)=some 1:=by kernel_rfl
theorem GN:(bG Tryz.prog 99).bind (szT Tryz.prog)=some 1:=by kernel_rfl
theorem J7:((bG Tryz.prog 109).bind (zeroCells Tryz.prog)).isSome=true:=by kernel_rfl
theorem ez120:((bG Tryz.prog 120).bind (zeroCells Tryz.prog)).isSome=true:=by kernel_rfl
theorem ez128:((bG Tryz.prog 128).bind (zeroCells Tryz.prog)).isSome=true:=by kernel_rfl
theorem Bc:((bG Tryz.prog 22).bind (zeroCells Tryz.prog)).isSome=true:=by kernel_rfl
theorem ez26:((bG Tryz.prog 26).bind (zeroCells Tryz.prog)).isSome=true:=by kernel_rfl
theorem ez28:((bG Tryz.prog 28).bind (zeroCells Tryz.prog)).isSome=true:=by kernel_rfl
theorem Gf:((bG Tryz.prog 30).bind (zeroCells Tryz.prog)).isSome=true:=by kernel_rfl
theorem ez55:((bG Tryz.prog 55).bind (zeroCells Tryz.prog)).isSome=true:=by kernel_rfl
theorem ez56:((bG Tryz.prog 56).bind (zeroCells Tryz.prog)).isSome=true:=by kernel_rfl
theorem ez65:((bG Tryz.prog 65).bind (zeroCells Tryz.prog)).isSome=true:=by kernel_rfl
theorem ez83:((bG Tryz.prog 83).bind (zeroCells Tryz.prog)).isSome=true:=by kernel_rfl
theorem ez91:((bG Tryz.prog 91).bind (zeroCells Tryz.prog)).isSome=true:=by kernel_rfl
theorem ez92:((bG Tryz.prog 92).bind (zeroCells Tryz.prog)).isSome=true:=by kernel_rfl
theorem ez94:((bG Tryz.prog 94).bind (zeroCells Tryz.prog)).isSome=true:=by kernel_rfl
theorem hb10:aI Tryz.prog 10=true:=by kernel_rfl
theorem hb100:aI Tryz.prog 100=true:=by kernel_rfl
theorem hb101:aI Tryz.prog 101=true:=by kernel_rfl
theorem J8:aI Tryz.prog 107=true:=by kernel_rfl
theorem hb108:aI Tryz.prog 108=true:=by kernel_rfl
theorem hb11:aI Tryz.prog 11=true:=by kernel_rfl
theorem hb116:aI Tryz.prog 116=true:=by kernel_rfl
theorem hb117:aI Tryz.prog 117=true:=by kernel_rfl
theorem hb118:aI Tryz.prog 118=true:=by kernel_rfl
theorem hb119:aI Tryz.prog 119=true:=by kernel_rfl
theorem IQ:aI Tryz.prog 12=true:=by kernel_rfl
theorem Dk:aI Tryz.prog 125=true:=by kernel_rfl
theorem hb126:aI Tryz.prog 126=true:=by kernel_rfl
theorem hb127:aI Tryz.prog 127=true:=by kernel_rfl
theorem hb13:aI Tryz.prog 13=true:=by kernel_rfl
theorem hb133:aI Tryz.prog 133=true:=by kernel_rfl
theorem hb139:aI Tryz.prog 139=true:=by kernel_rfl
theorem hb14:aI Tryz.prog 14=true:=by kernel_rfl
theorem hb143:aI Tryz.prog 143=true:=by kernel_rfl
theorem hb15:aI Tryz.prog 15=true:=by kernel_rfl
theorem hb16:aI Tryz.prog 16=true:=by kernel_rfl
theorem hb17:aI Tryz.prog 17=true:=by kernel_rfl
theorem hb18:aI Tryz.prog 18=true:=by kernel_rfl
theorem hb19:aI Tryz.prog 19=true:=by kernel_rfl
theorem hb20:aI Tryz.prog 20=true:=by kernel_rfl
theorem hb21:aI Tryz.prog 21=true:=by kernel_rfl
theorem hb22:aI Tryz.prog 22=true:=by kernel_rfl
theorem hb23:aI Tryz.prog 23=true:=by kernel_rfl
theorem hb24:aI Tryz.prog 24=true:=by kernel_rfl
theorem hb25:aI Tryz.prog 25=true:=by kernel_rfl
theorem hb26:aI Tryz.prog 26=true:=by kernel_rfl
theorem hb27:aI Tryz.prog 27=true:=by kernel_rfl
theorem hb28:aI Tryz.prog 28=true:=by kernel_rfl
theorem hb29:aI Tryz.prog 29=true:=by kernel_rfl
theorem hb30:aI Tryz.prog 30=true:=by kernel_rfl
theorem hb31:aI Tryz.prog 31=true:=by kernel_rfl
theorem ql:aI Tryz.prog 32=true:=by kernel_rfl
theorem hb33:aI Tryz.prog 33=true:=by kernel_rfl
theorem hb34:aI Tryz.prog 34=true:=by kernel_rfl
theorem hb35:aI Tryz.prog 35=true:=by kernel_rfl
theorem IY:aI Tryz.prog 36=true:=by kernel_rfl
theorem hb37:aI Tryz.prog 37=true:=by kernel_rfl
theorem hb38:aI Tryz.prog 38=true:=by kernel_rfl
theorem hb39:aI Tryz.prog 39=true:=by kernel_rfl
theorem hb4:aI Tryz.prog 4=true:=by kernel_rfl
theorem hb40:aI Tryz.prog 40=true:=by kernel_rfl
theorem hb41:aI Tryz.prog 41=true:=by kernel_rfl
theorem Bb:aI Tryz.prog 42=true:=by kernel_rfl
theorem hb43:aI Tryz.prog 43=true:=by kernel_rfl
theorem hb44:aI Tryz.prog 44=true:=by kernel_rfl
theorem hb45:aI Tryz.prog 45=true:=by kernel_rfl
theorem hb46:aI Tryz.prog 46=true:=by kernel_rfl
theorem hb47:aI Tryz.prog 47=true:=by kernel_rfl
theorem hb48:aI Tryz.prog 48=true:=by kernel_rfl
theorem hb49:aI Tryz.prog 49=true:=by kernel_rfl
theorem hb5:aI Tryz.prog 5=true:=by kernel_rfl
theorem hb50:aI Tryz.prog 50=true:=by kernel_rfl
theorem hb51:aI Tryz.prog 51=true:=by kernel_rfl
theorem hb52:aI Tryz.prog 52=true:=by kernel_rfl
theorem hb53:aI Tryz.prog 53=true:=by kernel_rfl
theorem hb54:aI Tryz.prog 54=true:=by kernel_rfl
theorem hb55:aI Tryz.prog 55=true:=by kernel_rfl
theorem hb56:aI Tryz.prog 56=true:=by kernel_rfl
theorem hb57:aI Tryz.prog 57=true:=by kernel_rfl
theorem hb58:aI Tryz.prog 58=true:=by kernel_rfl
theorem hb59:aI Tryz.prog 59=true:=by kernel_rfl
theorem hb6:aI Tryz.prog 6=true:=by kernel_rfl
theorem hb60:aI Tryz.prog 60=true:=by kernel_rfl
theorem hb61:aI Tryz.prog 61=true:=by kernel_rfl
theorem hb62:aI Tryz.prog 62=true:=by kernel_rfl
theorem hb63:aI Tryz.prog 63=true:=by kernel_rfl
theorem hb64:aI Tryz.prog 64=true:=by kernel_rfl
theorem hb65:aI Tryz.prog 65=true:=by kernel_rfl
theorem hb66:aI Tryz.prog 66=true:=by kernel_rfl
theorem hb67:aI Tryz.prog 67=true:=by kernel_rfl
theorem hb68:aI Tryz.prog 68=true:=by kernel_rfl
theorem hb7:aI Tryz.prog 7=true:=by kernel_rfl
theorem hb70:aI Tryz.prog 70=true:=by kernel_rfl
theorem hb71:aI Tryz.prog 71=true:=by kernel_rfl
theorem hb72:aI Tryz.prog 72=true:=by kernel_rfl
theorem hb73:aI Tryz.prog 73=true:=by kernel_rfl
theorem hb74:aI Tryz.prog 74=true:=by kernel_rfl
theorem hb75:aI Tryz.prog 75=true:=by kernel_rfl
theorem hb76:aI Tryz.prog 76=true:=by kernel_rfl
theorem hb77:aI Tryz.prog 77=true:=by kernel_rfl
theorem hb78:aI Tryz.prog 78=true:=by kernel_rfl
theorem hb79:aI Tryz.prog 79=true:=by kernel_rfl
theorem hb8:aI Tryz.prog 8=true:=by kernel_rfl
theorem hb80:aI Tryz.prog 80=true:=by kernel_rfl
theorem hb81:aI Tryz.prog 81=true:=by kernel_rfl
theorem hb88:aI Tryz.prog 88=true:=by kernel_rfl
theorem hb9:aI Tryz.prog 9=true:=by kernel_rfl
theorem hb92:aI Tryz.prog 92=true:=by kernel_rfl
theorem hb93:aI Tryz.prog 93=true:=by kernel_rfl
theorem hb94:aI Tryz.prog 94=true:=by kernel_rfl
theorem hb95:aI Tryz.prog 95=true:=by kernel_rfl
theorem hb96:aI Tryz.prog 96=true:=by kernel_rfl
theorem hb97:aI Tryz.prog 97=true:=by kernel_rfl
theorem hb98:aI Tryz.prog 98=true:=by kernel_rfl
theorem hb99:aI Tryz.prog 99=true:=by kernel_rfl
theorem mt142:Ht Tryz.prog 142=some (9,4):=by kernel_rfl
theorem nb124:aI Tryz.prog 124=false:=by kernel_rfl
theorem nb149:aI Tryz.prog 149=false:=by kernel_rfl
theorem ow:bD Tryz.prog 101 0=some (0,1):=by kernel_rfl
theorem pl101_1:bD Tryz.prog 101 1=some (1,1):=by kernel_rfl
theorem kK:bD Tryz.prog 114 0=some (0,1):=by kernel_rfl
theorem qj:bD Tryz.prog 114 1=some (1,1):=by kernel_rfl
theorem rG:bD Tryz.prog 139 0=some (0,1):=by kernel_rfl
theorem uR:bD Tryz.prog 139 1=some (1,1):=by kernel_rfl
theorem FT:bD Tryz.prog 25 0=some (0,1):=by kernel_rfl
theorem BV:bD Tryz.prog 25 1=some (1,1):=by kernel_rfl
theorem mD:bD Tryz.prog 37 0=some (0,1):=by kernel_rfl
theorem mr:bD Tryz.prog 37 1=some (1,1):=by kernel_rfl
theorem BF:bD Tryz.prog 39 0=some (0,1):=by kernel_rfl
theorem IC:bD Tryz.prog 39 1=some (1,2):=by kernel_rfl
theorem vM:bD Tryz.prog 39 2=some (3,1):=by kernel_rfl
theorem Fh:bD Tryz.prog 39 3=some (4,1):=by kernel_rfl
theorem IR:bD Tryz.prog 48 0=some (0,1):=by kernel_rfl
theorem Nn:bD Tryz.prog 48 1=some (1,1):=by kernel_rfl
theorem vO:bD Tryz.prog 48 2=some (2,2):=by kernel_rfl
theorem EN:bD Tryz.prog 48 3=some (4,1):=by kernel_rfl
theorem Fg:bD Tryz.prog 48 4=some (5,1):=by kernel_rfl
theorem Nz:bD Tryz.prog 48 5=some (6,1):=by kernel_rfl
theorem pl48_6:bD Tryz.prog 48 6=some (7,1):=by kernel_rfl
theorem zL:bD Tryz.prog 54 0=some (0,1):=by kernel_rfl
theorem vN:bD Tryz.prog 54 1=some (1,1):=by kernel_rfl
theorem ES:bD Tryz.prog 54 2=some (2,1):=by kernel_rfl
theorem Dh:bD Tryz.prog 54 3=some (3,1):=by kernel_rfl
theorem IZ:bD Tryz.prog 60 0=some (0,1):=by kernel_rfl
theorem pl60_1:bD Tryz.prog 60 1=some (1,1):=by kernel_rfl
theorem pl60_10:bD Tryz.prog 60 10=some (10,1):=by kernel_rfl
theorem pl60_11:bD Tryz.prog 60 11=some (11,1):=by kernel_rfl
theorem pl60_12:bD Tryz.prog 60 12=some (12,1):=by kernel_rfl
theorem pl60_2:bD Tryz.prog 60 2=some (2,1):=by kernel_rfl
theorem EK:bD Tryz.prog 60 3=some (3,1):=by kernel_rfl
theorem EF:bD Tryz.prog 60 4=some (4,1):=by kernel_rfl
theorem M4:bD Tryz.prog 60 5=some (5,1):=by kernel_rfl
theorem Nc:bD Tryz.prog 60 6=some (6,1):=by kernel_rfl
theorem LG:bD Tryz.prog 60 7=some (7,1):=by kernel_rfl
theorem JI:bD Tryz.prog 60 8=some (8,1):=by kernel_rfl
theorem M5:bD Tryz.prog 60 9=some (9,1):=by kernel_rfl
theorem zn:bD Tryz.prog 64 0=some (0,1):=by kernel_rfl
theorem BC:bD Tryz.prog 64 1=some (1,1):=by kernel_rfl
theorem CY:bD Tryz.prog 64 2=some (2,1):=by kernel_rfl
theorem Ad:bD Tryz.prog 67 0=some (0,1):=by kernel_rfl
theorem pl67_1:bD Tryz.prog 67 1=some (1,1):=by kernel_rfl
theorem Iz:bD Tryz.prog 67 2=some (2,1):=by kernel_rfl
theorem FI:bD Tryz.prog 67 3=some (3,1):=by kernel_rfl
theorem Cw:bD Tryz.prog 67 4=some (4,1):=by kernel_rfl
theorem pl67_5:bD Tryz.prog 67 5=some (5,1):=by kernel_rfl
theorem pl67_6:bD Tryz.prog 67 6=some (6,1):=by kernel_rfl
theorem Fz:bD Tryz.prog 67 7=some (7,1):=by kernel_rfl
theorem Jj:bD Tryz.prog 67 8=some (8,1):=by kernel_rfl
theorem I8:bD Tryz.prog 71 0=some (0,1):=by kernel_rfl
theorem Jn:bD Tryz.prog 71 1=some (1,1):=by kernel_rfl
theorem II:bD Tryz.prog 71 2=some (2,1):=by kernel_rfl
theorem mV:szT Tryz.prog 114=some 2:=by kernel_rfl
theorem Ei:szT Tryz.prog 139=some 2:=by kernel_rfl
theorem xK:szT Tryz.prog 22=some 1:=by kernel_rfl
theorem sz3:szT Tryz.prog 3=some 1:=by kernel_rfl
theorem zX:szT Tryz.prog 30=some 1:=by kernel_rfl
theorem sz31:szT Tryz.prog 31=some 1:=by kernel_rfl
theorem xe:szT Tryz.prog 37=some 2:=by kernel_rfl
theorem ym:szT Tryz.prog 39=some 5:=by kernel_rfl
theorem sz4:szT Tryz.prog 4=some 1:=by kernel_rfl
theorem Dw:szT Tryz.prog 48=some 8:=by kernel_rfl
theorem vY:szT Tryz.prog 54=some 4:=by kernel_rfl
theorem KZ:szT Tryz.prog 55=some 1:=by kernel_rfl
theorem Ji:szT Tryz.prog 60=some 13:=by kernel_rfl
theorem KL:szT Tryz.prog 64=some 3:=by kernel_rfl
theorem AY:szT Tryz.prog 67=some 9:=by kernel_rfl
theorem sz71:szT Tryz.prog 71=some 3:=by kernel_rfl
theorem sz9:szT Tryz.prog 9=some 1:=by kernel_rfl
theorem Dr:szT Tryz.prog 99=some 1:=by kernel_rfl
theorem xB:(Tryz.prog).underlying 109=some (.slice 114):=by kernel_rfl
theorem MG:(Tryz.prog).underlying 120=some (.slice 139):=by kernel_rfl
theorem un128:(Tryz.prog).underlying 128=some (.slice 55):=by kernel_rfl
theorem GV:(Tryz.prog).underlying 132=some (.int .u64):=by kernel_rfl
theorem yu:(Tryz.prog).underlying 156=some (.int .u64):=by kernel_rfl
theorem sK:(Tryz.prog).underlying 22=some (.slice 3):=by kernel_rfl
theorem G7:(Tryz.prog).underlying 26=some (.slice 39):=by kernel_rfl
theorem NE:(Tryz.prog).underlying 28=some (.slice 48):=by kernel_rfl
theorem un3:(Tryz.prog).underlying 3=some (.int .i64):=by kernel_rfl
theorem yf:(Tryz.prog).underlying 30=some (.slice 9):=by kernel_rfl
theorem un4:(Tryz.prog).underlying 4=some .bool:=by kernel_rfl
theorem un5:(Tryz.prog).underlying 5=some (.int .u8):=by kernel_rfl
theorem Aa:(Tryz.prog).underlying 55=some (.slice 54):=by kernel_rfl
theorem un56:(Tryz.prog).underlying 56=some (.slice 37):=by kernel_rfl
theorem un65:(Tryz.prog).underlying 65=some (.slice 64):=by kernel_rfl
theorem un83:(Tryz.prog).underlying 83=some (.slice 60):=by kernel_rfl
theorem un9:(Tryz.prog).underlying 9=some .string:=by kernel_rfl
theorem un91:(Tryz.prog).underlying 91=some (.slice 67):=by kernel_rfl
theorem un92:(Tryz.prog).underlying 92=some (.slice 71):=by kernel_rfl
theorem un94:(Tryz.prog).underlying 94=some (.slice 31):=by kernel_rfl
theorem un99:(Tryz.prog).underlying 99=some (.slice 22):=by kernel_rfl
theorem JE:zeroCells Tryz.prog 114=some [.d (.int .i64 0),.d (.int .i64 0)]:=by kernel_rfl
theorem z139:zeroCells Tryz.prog 139=some [.d (.int .i64 0),.d (.int .i64 0)]:=by kernel_rfl
theorem z22:zeroCells Tryz.prog 22=some [.nil]:=by kernel_rfl
theorem z3:zeroCells Tryz.prog 3=some [.d (.int .i64 0)]:=by kernel_rfl
theorem z37:zeroCells Tryz.prog 37=some [.d (.int .i64 0),.d (.int .i64 0)]:=by kernel_rfl
theorem z39:zeroCells Tryz.prog 39=some [.d (.str ⟨#[]⟩),.d (.int .i64 0),.d (.int .i64 0),.d (.int .i64 0),.nil]:=by kernel_rfl
theorem z48:zeroCells Tryz.prog 48=some [.d (.str ⟨#[]⟩),.d (.str ⟨#[]⟩),.d (.int .i64 0),.d (.int .i64 0),.nil,.d (.int .i64 0),.d (.int .i64 0),.d (.int .i64 0)]:=by kernel_rfl
theorem z54:zeroCells Tryz.prog 54=some [.d (.int .i64 0),.d (.int .i64 0),.d (.int .i64 0),.d (.int .i64 0)]:=by kernel_rfl
theorem z60:zeroCells Tryz.prog 60=some [.d (.str ⟨#[]⟩),.d (.str ⟨#[]⟩),.d (.int .i64 0),.d (.int .i64 0),.d (.int .i64 0),.d (.int .i64 0),.d (.int .i64 0),.nil,.d (.int .i64 0),.d (.int .i64 0),.d (.int .i64 0),.nil,.d (.bool false)]:=by kernel_rfl
theorem z64:zeroCells Tryz.prog 64=some [.d (.str ⟨#[]⟩),.d (.int .i64 0),.d (.int .i64 0)]:=by kernel_rfl
theorem z67:zeroCells Tryz.prog 67=some [.d (.str ⟨#[]⟩),.d (.str ⟨#[]⟩),.d (.int .i64 0),.nil,.d (.int .i64 0),.d (.int .i64 0),.d (.int .i64 0),.nil,.d (.str ⟨#[]⟩)]:=by kernel_rfl
theorem z71:zeroCells Tryz.prog 71=some [.d (.str ⟨#[]⟩),.d (.int .i64 0),.d (.int .i64 0)]:=by kernel_rfl
theorem z9:zeroCells Tryz.prog 9=some [.d (.str ⟨#[]⟩)]:=by kernel_rfl
end Go.Proofs.YtekmkepojbhafaaGreatDoor.Law

