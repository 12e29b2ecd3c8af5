/-
  Closed facts on the types and functions of the program.
-/
import Derived.Test.YtnjnggakgeommaaGreatProg
import Derived.Test.YtnjnggakgeommaaGreatEng5
open Go Go.Eng Go.Proofs
namespace Go.Proofs.YtnjnggakgeommaaGreat.Law
set_option maxRecDepth 100000
set_option linter.unusedVariables false
set_option maxHeartbeats 1000000
theorem sH:dw Tryz.prog 22=false:=by kernel_rfl
theorem Bb:dw Tryz.prog 28=false:=by kernel_rfl
theorem lb_ {a b:Nat} (h:Nat.ble a b=true):a<=b:=Nat.le_of_ble_eq_true h
abbrev SL_:=List (Nat×V)
theorem ag3:dw Tryz.prog 3=false:=by kernel_rfl
theorem uI:dw Tryz.prog 30=true:=by kernel_rfl
theorem iO:dw Tryz.prog 33=true:=by kernel_rfl
theorem jR:dw Tryz.prog 38=true:=by kernel_rfl
theorem ag4:dw Tryz.prog 4=false:=by kernel_rfl
theorem ag42:dw Tryz.prog 42=false:=by kernel_rfl
theorem ag43:dw Tryz.prog 43=false:=by kernel_rfl
theorem ag58:dw Tryz.prog 58=true:=by kernel_rfl
theorem ag61:dw Tryz.prog 61=false:=by kernel_rfl
theorem ag9:dw Tryz.prog 9=false:=by kernel_rfl
theorem zS:dw Tryz.prog 90=true:=by kernel_rfl
theorem by3:gu Tryz.prog 3=8:=by kernel_rfl
theorem L9:gu Tryz.prog 33=16:=by kernel_rfl
theorem by38:gu Tryz.prog 38=152:=by kernel_rfl
theorem by42:gu Tryz.prog 42=24:=by kernel_rfl
theorem by58:gu Tryz.prog 58=32:=by kernel_rfl
theorem by72:gu Tryz.prog 72=32:=by kernel_rfl
theorem by9:gu Tryz.prog 9=16:=by kernel_rfl
theorem by90:gu Tryz.prog 90=24:=by kernel_rfl
theorem wP:bT Tryz.prog 22=some 3:=by kernel_rfl
theorem KZ:bT Tryz.prog 26=some 38:=by kernel_rfl
theorem el28:bT Tryz.prog 28=some 9:=by kernel_rfl
theorem Dn:bT Tryz.prog 42=some 33:=by kernel_rfl
theorem el46:bT Tryz.prog 46=some 58:=by kernel_rfl
theorem el66:bT Tryz.prog 66=some 72:=by kernel_rfl
theorem el73:bT Tryz.prog 73=some 42:=by kernel_rfl
theorem IU:bT Tryz.prog 86=some 90:=by kernel_rfl
theorem iE:(bT Tryz.prog 22).bind (szT Tryz.prog)=some 1:=by kernel_rfl
theorem mE:(bT Tryz.prog 26).bind (szT Tryz.prog)=some 13:=by kernel_rfl
theorem nZ:(bT Tryz.prog 28).bind (szT Tryz.prog)=some 1:=by kernel_rfl
theorem qQ:(bT Tryz.prog 42).bind (szT Tryz.prog)=some 2:=by kernel_rfl
theorem es46:(bT Tryz.prog 46).bind (szT Tryz.prog)=some 2:=by kernel_rfl
theorem KI:(bT Tryz.prog 63).bind (szT Tryz.prog)=some 1:=by kernel_rfl
theorem Dc:(bT Tryz.prog 66).bind (szT Tryz.prog)=some 3:=by kernel_rfl
theorem es73:(bT Tryz.prog 73).bind (szT Tryz.prog)=some 1:=by kernel_rfl
theorem es76:(bT Tryz.prog 76).bind (szT Tryz.prog)=some 1:=by kernel_rfl
theorem zu:(bT Tryz.prog 86).bind (szT Tryz.prog)=some 3:=by kernel_rfl
theorem es99:(bT Tryz.prog 99).bind (szT Tryz.prog)=some 1:=by kernel_rfl
theorem pW:((bT Tryz.prog 22).bind (zeroCells Tryz.prog)).isSome=true:=by kernel_rfl
theorem ez26:((bT Tryz.prog 26).bind (zeroCells Tryz.prog)).isSome=true:=by kernel_rfl
theorem wQ:((bT Tryz.prog 28).bind (zeroCells Tryz.prog)).isSome=true:=by kernel_rfl
theorem LY:((bT Tryz.prog 42).bind (zeroCells Tryz.prog)).isSome=true:=by kernel_rfl
theorem ez46:((bT Tryz.prog 46).bind (zeroCells Tryz.prog)).isSome=true:=by kernel_rfl
theorem ez63:((bT Tryz.prog 63).bind (zeroCells Tryz.prog)).isSome=true:=by kernel_rfl
theorem ez66:((bT Tryz.prog 66).bind (zeroCells Tryz.prog)).isSome=true:=by kernel_rfl
theorem ez73:((bT Tryz.prog 73).bind (zeroCells Tryz.prog)).isSome=true:=by kernel_rfl
theorem ez76:((bT Tryz.prog 76).bind (zeroCells Tryz.prog)).isSome=true:=by kernel_rfl
theorem ez86:((bT Tryz.prog 86).bind (zeroCells Tryz.prog)).isSome=true:=by kernel_rfl
theorem ez99:((bT Tryz.prog 99).bind (zeroCells Tryz.prog)).isSome=true:=by kernel_rfl
theorem fr90_0:ER Tryz.prog 90 0=some (0,1,false):=by kernel_rfl
theorem C9:aI Tryz.prog 10=true:=by kernel_rfl
theorem hb100:aI Tryz.prog 100=true:=by kernel_rfl
theorem hb101:aI Tryz.prog 101=true:=by kernel_rfl
theorem KE:aI Tryz.prog 11=true:=by kernel_rfl
theorem hb110:aI Tryz.prog 110=true:=by kernel_rfl
theorem hb111:aI Tryz.prog 111=true:=by kernel_rfl
theorem hb112:aI Tryz.prog 112=true:=by kernel_rfl
theorem hb118:aI Tryz.prog 118=true:=by kernel_rfl
theorem hb119:aI Tryz.prog 119=true:=by kernel_rfl
theorem hb12:aI Tryz.prog 12=true:=by kernel_rfl
theorem hb120:aI Tryz.prog 120=true:=by kernel_rfl
theorem hb121:aI Tryz.prog 121=true:=by kernel_rfl
theorem hb122:aI Tryz.prog 122=true:=by kernel_rfl
theorem hb123:aI Tryz.prog 123=true:=by kernel_rfl
theorem hb124:aI Tryz.prog 124=true:=by kernel_rfl
theorem hb125:aI Tryz.prog 125=true:=by kernel_rfl
theorem hb13:aI Tryz.prog 13=true:=by kernel_rfl
theorem hb132:aI Tryz.prog 132=true:=by kernel_rfl
theorem hb133:aI Tryz.prog 133=true:=by kernel_rfl
theorem hb134:aI Tryz.prog 134=true:=by kernel_rfl
theorem hb14:aI Tryz.prog 14=true:=by kernel_rfl
theorem hb142:aI Tryz.prog 142=true:=by kernel_rfl
theorem hb15:aI Tryz.prog 15=true:=by kernel_rfl
theorem hb16:aI Tryz.prog 16=true:=by kernel_rfl
theorem hb17:aI Tryz.prog 17=true:=by kernel_rfl
theorem hb18:aI Tryz.prog 18=true:=by kernel_rfl
theorem hb19:aI Tryz.prog 19=true:=by kernel_rfl
theorem hb20:aI Tryz.prog 20=true:=by kernel_rfl
theorem hb21:aI Tryz.prog 21=true:=by kernel_rfl
theorem hb22:aI Tryz.prog 22=true:=by kernel_rfl
theorem hb23:aI Tryz.prog 23=true:=by kernel_rfl
theorem Du:aI Tryz.prog 24=true:=by kernel_rfl
theorem hb25:aI Tryz.prog 25=true:=by kernel_rfl
theorem hb26:aI Tryz.prog 26=true:=by kernel_rfl
theorem AU:aI Tryz.prog 27=true:=by kernel_rfl
theorem hb28:aI Tryz.prog 28=true:=by kernel_rfl
theorem hb29:aI Tryz.prog 29=true:=by kernel_rfl
theorem hb30:aI Tryz.prog 30=true:=by kernel_rfl
theorem hb31:aI Tryz.prog 31=true:=by kernel_rfl
theorem hb32:aI Tryz.prog 32=true:=by kernel_rfl
theorem Lx:aI Tryz.prog 33=true:=by kernel_rfl
theorem hb34:aI Tryz.prog 34=true:=by kernel_rfl
theorem hb35:aI Tryz.prog 35=true:=by kernel_rfl
theorem hb36:aI Tryz.prog 36=true:=by kernel_rfl
theorem hb37:aI Tryz.prog 37=true:=by kernel_rfl
theorem LQ:aI Tryz.prog 38=true:=by kernel_rfl
theorem AY:aI Tryz.prog 39=true:=by kernel_rfl
theorem hb4:aI Tryz.prog 4=true:=by kernel_rfl
theorem hb40:aI Tryz.prog 40=true:=by kernel_rfl
theorem hb41:aI Tryz.prog 41=true:=by kernel_rfl
theorem hb42:aI Tryz.prog 42=true:=by kernel_rfl
theorem hb43:aI Tryz.prog 43=true:=by kernel_rfl
theorem hb44:aI Tryz.prog 44=true:=by kernel_rfl
theorem hb45:aI Tryz.prog 45=true:=by kernel_rfl
theorem hb46:aI Tryz.prog 46=true:=by kernel_rfl
theorem hb47:aI Tryz.prog 47=true:=by kernel_rfl
theorem hb48:aI Tryz.prog 48=true:=by kernel_rfl
theorem hb49:aI Tryz.prog 49=true:=by kernel_rfl
theorem hb5:aI Tryz.prog 5=true:=by kernel_rfl
theorem hb50:aI Tryz.prog 50=true:=by kernel_rfl
theorem hb51:aI Tryz.prog 51=true:=by kernel_rfl
theorem hb52:aI Tryz.prog 52=true:=by kernel_rfl
theorem hb53:aI Tryz.prog 53=true:=by kernel_rfl
theorem hb54:aI Tryz.prog 54=true:=by kernel_rfl
theorem hb55:aI Tryz.prog 55=true:=by kernel_rfl
theorem hb56:aI Tryz.prog 56=true:=by kernel_rfl
theorem hb57:aI Tryz.prog 57=true:=by kernel_rfl
theorem hb58:aI Tryz.prog 58=true:=by kernel_rfl
theorem hb59:aI Tryz.prog 59=true:=by kernel_rfl
theorem hb6:aI Tryz.prog 6=true:=by kernel_rfl
theorem Cw:aI Tryz.prog 60=true:=by kernel_rfl
theorem hb61:aI Tryz.prog 61=true:=by kernel_rfl
theorem hb62:aI Tryz.prog 62=true:=by kernel_rfl
theorem hb63:aI Tryz.prog 63=true:=by kernel_rfl
theorem hb64:aI Tryz.prog 64=true:=by kernel_rfl
theorem hb65:aI Tryz.prog 65=true:=by kernel_rfl
theorem hb67:aI Tryz.prog 67=true:=by kernel_rfl
theorem hb68:aI Tryz.prog 68=true:=by kernel_rfl
theorem hb69:aI Tryz.prog 69=true:=by kernel_rfl
theorem hb7:aI Tryz.prog 7=true:=by kernel_rfl
theorem hb70:aI Tryz.prog 70=true:=by kernel_rfl
theorem MW:aI Tryz.prog 71=true:=by kernel_rfl
theorem hb72:aI Tryz.prog 72=true:=by kernel_rfl
theorem hb73:aI Tryz.prog 73=true:=by kernel_rfl
theorem hb74:aI Tryz.prog 74=true:=by kernel_rfl
theorem hb76:aI Tryz.prog 76=true:=by kernel_rfl
theorem hb77:aI Tryz.prog 77=true:=by kernel_rfl
theorem hb78:aI Tryz.prog 78=true:=by kernel_rfl
theorem hb79:aI Tryz.prog 79=true:=by kernel_rfl
theorem hb8:aI Tryz.prog 8=true:=by kernel_rfl
theorem hb80:aI Tryz.prog 80=true:=by kernel_rfl
theorem hb81:aI Tryz.prog 81=true:=by kernel_rfl
theorem hb88:aI Tryz.prog 88=true:=by kernel_rfl
theorem hb9:aI Tryz.prog 9=true:=by kernel_rfl
theorem hb92:aI Tryz.prog 92=true:=by kernel_rfl
theorem hb93:aI Tryz.prog 93=true:=by kernel_rfl
theorem hb94:aI Tryz.prog 94=true:=by kernel_rfl
theorem hb95:aI Tryz.prog 95=true:=by kernel_rfl
theorem hb96:aI Tryz.prog 96=true:=by kernel_rfl
theorem hb97:aI Tryz.prog 97=true:=by kernel_rfl
theorem hb98:aI Tryz.prog 98=true:=by kernel_rfl
theorem hb99:aI Tryz.prog 99=true:=by kernel_rfl
theorem mt68:Gt Tryz.prog 68=some (9,9):=by kernel_rfl
theorem nb129:aI Tryz.prog 129=false:=by kernel_rfl
theorem nb130:aI Tryz.prog 130=false:=by kernel_rfl
theorem FQ:fO Tryz.prog 25 0=some (0,1):=by kernel_rfl
theorem CZ:fO Tryz.prog 25 1=some (1,1):=by kernel_rfl
theorem MG:fO Tryz.prog 30 0=some (0,1):=by kernel_rfl
theorem M9:fO Tryz.prog 30 1=some (1,1):=by kernel_rfl
theorem uD:fO Tryz.prog 30 2=some (2,1):=by kernel_rfl
theorem FY:fO Tryz.prog 30 3=some (3,1):=by kernel_rfl
theorem fw:fO Tryz.prog 33 0=some (0,1):=by kernel_rfl
theorem dX:fO Tryz.prog 33 1=some (1,1):=by kernel_rfl
theorem j5:fO Tryz.prog 38 0=some (0,1):=by kernel_rfl
theorem yc:fO Tryz.prog 38 1=some (1,1):=by kernel_rfl
theorem mQ:fO Tryz.prog 38 10=some (10,1):=by kernel_rfl
theorem ug:fO Tryz.prog 38 11=some (11,1):=by kernel_rfl
theorem Bh:fO Tryz.prog 38 12=some (12,1):=by kernel_rfl
theorem Lv:fO Tryz.prog 38 2=some (2,1):=by kernel_rfl
theorem rf:fO Tryz.prog 38 3=some (3,1):=by kernel_rfl
theorem qV:fO Tryz.prog 38 4=some (4,1):=by kernel_rfl
theorem Cb:fO Tryz.prog 38 5=some (5,1):=by kernel_rfl
theorem BB:fO Tryz.prog 38 6=some (6,1):=by kernel_rfl
theorem rT:fO Tryz.prog 38 7=some (7,1):=by kernel_rfl
theorem xK:fO Tryz.prog 38 8=some (8,1):=by kernel_rfl
theorem BV:fO Tryz.prog 38 9=some (9,1):=by kernel_rfl
theorem BJ:fO Tryz.prog 72 0=some (0,2):=by kernel_rfl
theorem BO:fO Tryz.prog 72 1=some (2,1):=by kernel_rfl
theorem EI:fO Tryz.prog 90 0=some (0,1):=by kernel_rfl
theorem xJ:fO Tryz.prog 90 1=some (1,2):=by kernel_rfl
theorem qw:szT Tryz.prog 22=some 1:=by kernel_rfl
theorem yT:szT Tryz.prog 28=some 1:=by kernel_rfl
theorem sz3:szT Tryz.prog 3=some 1:=by kernel_rfl
theorem p8:szT Tryz.prog 30=some 4:=by kernel_rfl
theorem eP:szT Tryz.prog 33=some 2:=by kernel_rfl
theorem gK:szT Tryz.prog 38=some 13:=by kernel_rfl
theorem sz4:szT Tryz.prog 4=some 1:=by kernel_rfl
theorem sz42:szT Tryz.prog 42=some 1:=by kernel_rfl
theorem sz43:szT Tryz.prog 43=some 1:=by kernel_rfl
theorem sz58:szT Tryz.prog 58=some 2:=by kernel_rfl
theorem sz61:szT Tryz.prog 61=some 1:=by kernel_rfl
theorem sz72:szT Tryz.prog 72=some 3:=by kernel_rfl
theorem sz9:szT Tryz.prog 9=some 1:=by kernel_rfl
theorem pI:szT Tryz.prog 90=some 3:=by kernel_rfl
theorem GI:(Tryz.prog).underlying 103=some (.int .u64):=by kernel_rfl
theorem un124:(Tryz.prog).underlying 124=some (.int .u64):=by kernel_rfl
theorem nL:(Tryz.prog).underlying 22=some (.slice 3):=by kernel_rfl
theorem qb:(Tryz.prog).underlying 26=some (.slice 38):=by kernel_rfl
theorem Br:(Tryz.prog).underlying 28=some (.slice 9):=by kernel_rfl
theorem un3:(Tryz.prog).underlying 3=some (.int .i64):=by kernel_rfl
theorem zg:(Tryz.prog).underlying 42=some (.slice 33):=by kernel_rfl
theorem un46:(Tryz.prog).underlying 46=some (.slice 58):=by kernel_rfl
theorem un5:(Tryz.prog).underlying 5=some (.int .u8):=by kernel_rfl
theorem un66:(Tryz.prog).underlying 66=some (.slice 72):=by kernel_rfl
theorem un76:(Tryz.prog).underlying 76=some (.slice 43):=by kernel_rfl
theorem Cq:(Tryz.prog).underlying 86=some (.slice 90):=by kernel_rfl
theorem un9:(Tryz.prog).underlying 9=some .string:=by kernel_rfl
theorem un99:(Tryz.prog).underlying 99=some (.slice 22):=by kernel_rfl
theorem z22:zeroCells Tryz.prog 22=some [.nil]:=by kernel_rfl
theorem z3:zeroCells Tryz.prog 3=some [.d (.int .i64 0)]:=by kernel_rfl
theorem z30:zeroCells Tryz.prog 30=some [.d (.str ⟨#[]⟩),.d (.str ⟨#[]⟩),.d (.int .i64 0),.nil]:=by kernel_rfl
theorem z33:zeroCells Tryz.prog 33=some [.d (.int .i64 0),.d (.int .i64 0)]:=by kernel_rfl
theorem z38:zeroCells Tryz.prog 38=some [.d (.str ⟨#[]⟩),.d (.str ⟨#[]⟩),.d (.int .i64 0),.d (.int .i64 0),.d (.int .i64 0),.d (.int .i64 0),.d (.int .i64 0),.nil,.d (.int .i64 0),.d (.int .i64 0),.d (.int .i64 0),.nil,.d (.bool false)]:=by kernel_rfl
theorem z42:zeroCells Tryz.prog 42=some [.nil]:=by kernel_rfl
theorem z58:zeroCells Tryz.prog 58=some [.d (.str ⟨#[]⟩),.d (.str ⟨#[]⟩)]:=by kernel_rfl
theorem z72:zeroCells Tryz.prog 72=some [.d (.int .i64 0),.d (.int .i64 0),.d (.str ⟨#[]⟩)]:=by kernel_rfl
theorem z9:zeroCells Tryz.prog 9=some [.d (.str ⟨#[]⟩)]:=by kernel_rfl
theorem z90:zeroCells Tryz.prog 90=some [.d .nilp,.d (.int .i64 0),.d (.int .i64 0)]:=by kernel_rfl
end Go.Proofs.YtnjnggakgeommaaGreat.Law

