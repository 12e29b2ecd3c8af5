/-
  Closed facts on the types and functions of the program.
-/
import Derived.Test.YtljhfffghjclfabGreatDoorProg
import Derived.Test.YtljhfffghjclfabGreatDoorEng5
open Go Go.Eng Go.Proofs
namespace Go.Proofs.YtljhfffghjclfabGreatDoor.Law
set_option maxRecDepth 100000
set_option linter.unusedVariables false
set_option maxHeartbeats 1000000
theorem xH:cz Tryz.prog 152=true:=by kernel_rfl
theorem lb_ {a b:Nat} (h:Nat.ble a b=true):a<=b:=Nat.le_of_ble_eq_true h
abbrev SL_:=List (Nat×V)
theorem ag184:cz Tryz.prog 184=true:=by kernel_rfl
theorem Pz:cz Tryz.prog 22=false:=by kernel_rfl
theorem ag28:cz Tryz.prog 28=false:=by kernel_rfl
theorem ag3:cz Tryz.prog 3=false:=by kernel_rfl
theorem Ep:cz Tryz.prog 34=false:=by kernel_rfl
theorem FJ:cz Tryz.prog 35=false:=by kernel_rfl
theorem tH:cz Tryz.prog 37=true:=by kernel_rfl
theorem ag4:cz Tryz.prog 4=false:=by kernel_rfl
theorem EJ:cz Tryz.prog 47=true:=by kernel_rfl
theorem Oq:cz Tryz.prog 75=true:=by kernel_rfl
theorem Jo:cz Tryz.prog 77=true:=by kernel_rfl
theorem ag80:cz Tryz.prog 80=true:=by kernel_rfl
theorem ag83:cz Tryz.prog 83=true:=by kernel_rfl
theorem ag88:cz Tryz.prog 88=true:=by kernel_rfl
theorem ag9:cz Tryz.prog 9=false:=by kernel_rfl
theorem Nt:bytesT Tryz.prog 152=16:=by kernel_rfl
theorem by184:bytesT Tryz.prog 184=16:=by kernel_rfl
theorem by3:bytesT Tryz.prog 3=8:=by kernel_rfl
theorem by37:bytesT Tryz.prog 37=128:=by kernel_rfl
theorem Qe:bytesT Tryz.prog 47=32:=by kernel_rfl
theorem by77:bytesT Tryz.prog 77=16:=by kernel_rfl
theorem by9:bytesT Tryz.prog 9=16:=by kernel_rfl
theorem CL:elemT Tryz.prog 147=some 152:=by kernel_rfl
theorem Nz:elemT Tryz.prog 160=some 184:=by kernel_rfl
theorem PO:elemT Tryz.prog 22=some 3:=by kernel_rfl
theorem el26:elemT Tryz.prog 26=some 37:=by kernel_rfl
theorem Ox:elemT Tryz.prog 34=some 9:=by kernel_rfl
theorem FX:elemT Tryz.prog 35=some 47:=by kernel_rfl
theorem el71:elemT Tryz.prog 71=some 77:=by kernel_rfl
theorem RJ:(elemT Tryz.prog 110).bind (szT Tryz.prog)=some 13:=by kernel_rfl
theorem Qq:(elemT Tryz.prog 116).bind (szT Tryz.prog)=some 8:=by kernel_rfl
theorem Qh:(elemT Tryz.prog 120).bind (szT Tryz.prog)=some 3:=by kernel_rfl
theorem es122:(elemT Tryz.prog 122).bind (szT Tryz.prog)=some 1:=by kernel_rfl
theorem lL:(elemT Tryz.prog 147).bind (szT Tryz.prog)=some 2:=by kernel_rfl
theorem Aj:(elemT Tryz.prog 160).bind (szT Tryz.prog)=some 2:=by kernel_rfl
theorem QT:(elemT Tryz.prog 175).bind (szT Tryz.prog)=some 1:=by kernel_rfl
theorem lG:(elemT Tryz.prog 22).bind (szT Tryz.prog)=some 1:=by kernel_rfl
theorem tF:(elemT Tryz.prog 26).bind (szT Tryz.prog)=some 9:=by kernel_rfl
theorem mI:(elemT Tryz.prog 34).bind (szT Tryz.prog)=some 1:=by kernel_rfl
theorem BI:(elemT Tryz.prog 35).bind (szT Tryz.prog)=some 4:=by kernel_rfl
theorem es71:(elemT Tryz.prog 71).bind (szT Tryz.prog)=some 2:=by kernel_rfl
theorem Pe:(elemT Tryz.prog 84).bind (szT Tryz.prog)=some 3:=by kernel_rfl
theorem ez110:((elemT Tryz.prog 110).bind (zeroCells Tryz.prog)).isSome=true:=by kernel_rfl
theorem ez116:((elemT Tryz.prog 116).bind (zeroCells Tryz.prog)).isSome=true:=by kernel_rfl
theorem ez120:((elemT Tryz.prog 120).bind (zeroCells Tryz.prog)).isSome=true:=by kernel_rfl
theorem ez122:((elemT Tryz.prog 122).bind (zeroCells Tryz.prog)).isSome=true:=by kernel_rfl
theorem Oc:((elemT Tryz.prog 147).bind (zeroCells Tryz.prog)).isSome=true:=by kernel_rfl
theorem ez160:((elemT Tryz.prog 160).bind (zeroCells Tryz.prog)).isSome=true:=by kernel_rfl
theorem ez175:((elemT Tryz.prog 175).bind (zeroCells Tryz.prog)).isSome=true:=by kernel_rfl
theorem Dt:((elemT Tryz.prog 22).bind (zeroCells Tryz.prog)).isSome=true:=by kernel_rfl
theorem Qc:((elemT Tryz.prog 26).bind (zeroCells Tryz.prog)).isSome=true:=by kernel_rfl
theorem DD:((elemT Tryz.prog 34).bind (zeroCells Tryz.prog)).isSome=true:=by kernel_rfl
theorem QP:((elemT Tryz.prog 35).bind (zeroCells Tryz.prog)).isSome=true:=by kernel_rfl
theorem ez71:((elemT Tryz.prog 71).bind (zeroCells Tryz.prog)).isSome=true:=by kernel_rfl
theorem ez84:((elemT Tryz.prog 84).bind (zeroCells Tryz.prog)).isSome=true:=by kernel_rfl
theorem hb10:aH Tryz.prog 10=true:=by kernel_rfl
theorem hb100:aH Tryz.prog 100=true:=by kernel_rfl
theorem hb101:aH Tryz.prog 101=true:=by kernel_rfl
theorem hb102:aH Tryz.prog 102=true:=by kernel_rfl
theorem hb103:aH Tryz.prog 103=true:=by kernel_rfl
theorem hb109:aH Tryz.prog 109=true:=by kernel_rfl
theorem MK:aH Tryz.prog 11=true:=by kernel_rfl
theorem hb110:aH Tryz.prog 110=true:=by kernel_rfl
theorem hb111:aH Tryz.prog 111=true:=by kernel_rfl
theorem Nc:aH Tryz.prog 112=true:=by kernel_rfl
theorem hb113:aH Tryz.prog 113=true:=by kernel_rfl
theorem hb118:aH Tryz.prog 118=true:=by kernel_rfl
theorem hb119:aH Tryz.prog 119=true:=by kernel_rfl
theorem hb12:aH Tryz.prog 12=true:=by kernel_rfl
theorem hb120:aH Tryz.prog 120=true:=by kernel_rfl
theorem hb122:aH Tryz.prog 122=true:=by kernel_rfl
theorem hb124:aH Tryz.prog 124=true:=by kernel_rfl
theorem hb125:aH Tryz.prog 125=true:=by kernel_rfl
theorem hb126:aH Tryz.prog 126=true:=by kernel_rfl
theorem hb127:aH Tryz.prog 127=true:=by kernel_rfl
theorem hb128:aH Tryz.prog 128=true:=by kernel_rfl
theorem hb129:aH Tryz.prog 129=true:=by kernel_rfl
theorem hb13:aH Tryz.prog 13=true:=by kernel_rfl
theorem hb130:aH Tryz.prog 130=true:=by kernel_rfl
theorem hb131:aH Tryz.prog 131=true:=by kernel_rfl
theorem hb14:aH Tryz.prog 14=true:=by kernel_rfl
theorem hb15:aH Tryz.prog 15=true:=by kernel_rfl
theorem hb150:aH Tryz.prog 150=true:=by kernel_rfl
theorem hb16:aH Tryz.prog 16=true:=by kernel_rfl
theorem hb160:aH Tryz.prog 160=true:=by kernel_rfl
theorem hb163:aH Tryz.prog 163=true:=by kernel_rfl
theorem hb164:aH Tryz.prog 164=true:=by kernel_rfl
theorem hb165:aH Tryz.prog 165=true:=by kernel_rfl
theorem hb17:aH Tryz.prog 17=true:=by kernel_rfl
theorem hb18:aH Tryz.prog 18=true:=by kernel_rfl
theorem hb187:aH Tryz.prog 187=true:=by kernel_rfl
theorem hb19:aH Tryz.prog 19=true:=by kernel_rfl
theorem hb20:aH Tryz.prog 20=true:=by kernel_rfl
theorem hb21:aH Tryz.prog 21=true:=by kernel_rfl
theorem hb22:aH Tryz.prog 22=true:=by kernel_rfl
theorem hb23:aH Tryz.prog 23=true:=by kernel_rfl
theorem hb24:aH Tryz.prog 24=true:=by kernel_rfl
theorem hb25:aH Tryz.prog 25=true:=by kernel_rfl
theorem hb26:aH Tryz.prog 26=true:=by kernel_rfl
theorem hb27:aH Tryz.prog 27=true:=by kernel_rfl
theorem hb28:aH Tryz.prog 28=true:=by kernel_rfl
theorem hb29:aH Tryz.prog 29=true:=by kernel_rfl
theorem hb30:aH Tryz.prog 30=true:=by kernel_rfl
theorem hb31:aH Tryz.prog 31=true:=by kernel_rfl
theorem hb32:aH Tryz.prog 32=true:=by kernel_rfl
theorem hb33:aH Tryz.prog 33=true:=by kernel_rfl
theorem MG:aH Tryz.prog 34=true:=by kernel_rfl
theorem hb35:aH Tryz.prog 35=true:=by kernel_rfl
theorem hb36:aH Tryz.prog 36=true:=by kernel_rfl
theorem hb37:aH Tryz.prog 37=true:=by kernel_rfl
theorem hb38:aH Tryz.prog 38=true:=by kernel_rfl
theorem hb4:aH Tryz.prog 4=true:=by kernel_rfl
theorem hb40:aH Tryz.prog 40=true:=by kernel_rfl
theorem hb41:aH Tryz.prog 41=true:=by kernel_rfl
theorem hb42:aH Tryz.prog 42=true:=by kernel_rfl
theorem hb43:aH Tryz.prog 43=true:=by kernel_rfl
theorem hb44:aH Tryz.prog 44=true:=by kernel_rfl
theorem hb45:aH Tryz.prog 45=true:=by kernel_rfl
theorem hb46:aH Tryz.prog 46=true:=by kernel_rfl
theorem hb47:aH Tryz.prog 47=true:=by kernel_rfl
theorem hb48:aH Tryz.prog 48=true:=by kernel_rfl
theorem hb49:aH Tryz.prog 49=true:=by kernel_rfl
theorem hb5:aH Tryz.prog 5=true:=by kernel_rfl
theorem hb50:aH Tryz.prog 50=true:=by kernel_rfl
theorem hb51:aH Tryz.prog 51=true:=by kernel_rfl
theorem rU:aH Tryz.prog 52=true:=by kernel_rfl
theorem hb53:aH Tryz.prog 53=true:=by kernel_rfl
theorem hb54:aH Tryz.prog 54=true:=by kernel_rfl
theorem hb55:aH Tryz.prog 55=true:=by kernel_rfl
theorem hb56:aH Tryz.prog 56=true:=by kernel_rfl
theorem Mj:aH Tryz.prog 57=true:=by kernel_rfl
theorem hb58:aH Tryz.prog 58=true:=by kernel_rfl
theorem hb59:aH Tryz.prog 59=true:=by kernel_rfl
theorem hb6:aH Tryz.prog 6=true:=by kernel_rfl
theorem hb60:aH Tryz.prog 60=true:=by kernel_rfl
theorem hb61:aH Tryz.prog 61=true:=by kernel_rfl
theorem hb62:aH Tryz.prog 62=true:=by kernel_rfl
theorem hb63:aH Tryz.prog 63=true:=by kernel_rfl
theorem hb7:aH Tryz.prog 7=true:=by kernel_rfl
theorem hb72:aH Tryz.prog 72=true:=by kernel_rfl
theorem Fw:aH Tryz.prog 73=true:=by kernel_rfl
theorem hb74:aH Tryz.prog 74=true:=by kernel_rfl
theorem hb75:aH Tryz.prog 75=true:=by kernel_rfl
theorem hb76:aH Tryz.prog 76=true:=by kernel_rfl
theorem hb77:aH Tryz.prog 77=true:=by kernel_rfl
theorem hb78:aH Tryz.prog 78=true:=by kernel_rfl
theorem hb79:aH Tryz.prog 79=true:=by kernel_rfl
theorem hb8:aH Tryz.prog 8=true:=by kernel_rfl
theorem hb83:aH Tryz.prog 83=true:=by kernel_rfl
theorem hb84:aH Tryz.prog 84=true:=by kernel_rfl
theorem hb85:aH Tryz.prog 85=true:=by kernel_rfl
theorem hb86:aH Tryz.prog 86=true:=by kernel_rfl
theorem hb87:aH Tryz.prog 87=true:=by kernel_rfl
theorem hb88:aH Tryz.prog 88=true:=by kernel_rfl
theorem hb89:aH Tryz.prog 89=true:=by kernel_rfl
theorem hb9:aH Tryz.prog 9=true:=by kernel_rfl
theorem hb90:aH Tryz.prog 90=true:=by kernel_rfl
theorem hb91:aH Tryz.prog 91=true:=by kernel_rfl
theorem hb92:aH Tryz.prog 92=true:=by kernel_rfl
theorem hb93:aH Tryz.prog 93=true:=by kernel_rfl
theorem hb94:aH Tryz.prog 94=true:=by kernel_rfl
theorem hb95:aH Tryz.prog 95=true:=by kernel_rfl
theorem hb96:aH Tryz.prog 96=true:=by kernel_rfl
theorem hb97:aH Tryz.prog 97=true:=by kernel_rfl
theorem hb98:aH Tryz.prog 98=true:=by kernel_rfl
theorem hb99:aH Tryz.prog 99=true:=by kernel_rfl
theorem if57:Nr Tryz.prog 57=true:=by kernel_rfl
theorem mt95:EL Tryz.prog 95=some (9,4):=by kernel_rfl
theorem nb141:aH Tryz.prog 141=false:=by kernel_rfl
theorem lw:bN Tryz.prog 152 0=some (0,1):=by kernel_rfl
theorem qX:bN Tryz.prog 152 1=some (1,1):=by kernel_rfl
theorem uh:bN Tryz.prog 184 0=some (0,1):=by kernel_rfl
theorem wF:bN Tryz.prog 184 1=some (1,1):=by kernel_rfl
theorem JE:bN Tryz.prog 25 0=some (0,1):=by kernel_rfl
theorem Ga:bN Tryz.prog 25 1=some (1,1):=by kernel_rfl
theorem uz:bN Tryz.prog 37 0=some (0,1):=by kernel_rfl
theorem Mr:bN Tryz.prog 37 1=some (1,1):=by kernel_rfl
theorem Aa:bN Tryz.prog 37 2=some (2,1):=by kernel_rfl
theorem qG:bN Tryz.prog 37 3=some (3,1):=by kernel_rfl
theorem qB:bN Tryz.prog 37 4=some (4,1):=by kernel_rfl
theorem IM:bN Tryz.prog 37 5=some (5,1):=by kernel_rfl
theorem MQ:bN Tryz.prog 37 6=some (6,1):=by kernel_rfl
theorem rZ:bN Tryz.prog 37 7=some (7,1):=by kernel_rfl
theorem sZ:bN Tryz.prog 37 8=some (8,1):=by kernel_rfl
theorem xw:bN Tryz.prog 47 0=some (0,1):=by kernel_rfl
theorem uu:bN Tryz.prog 47 1=some (1,1):=by kernel_rfl
theorem BH:bN Tryz.prog 47 2=some (2,1):=by kernel_rfl
theorem zx:bN Tryz.prog 47 3=some (3,1):=by kernel_rfl
theorem LD:bN Tryz.prog 75 0=some (0,1):=by kernel_rfl
theorem pl75_1:bN Tryz.prog 75 1=some (1,1):=by kernel_rfl
theorem pl75_10:bN Tryz.prog 75 10=some (10,1):=by kernel_rfl
theorem pl75_11:bN Tryz.prog 75 11=some (11,1):=by kernel_rfl
theorem pl75_12:bN Tryz.prog 75 12=some (12,1):=by kernel_rfl
theorem pl75_2:bN Tryz.prog 75 2=some (2,1):=by kernel_rfl
theorem Ja:bN Tryz.prog 75 3=some (3,1):=by kernel_rfl
theorem IJ:bN Tryz.prog 75 4=some (4,1):=by kernel_rfl
theorem Q0:bN Tryz.prog 75 5=some (5,1):=by kernel_rfl
theorem Qp:bN Tryz.prog 75 6=some (6,1):=by kernel_rfl
theorem Rn:bN Tryz.prog 75 7=some (7,1):=by kernel_rfl
theorem ME:bN Tryz.prog 75 8=some (8,1):=by kernel_rfl
theorem Qw:bN Tryz.prog 75 9=some (9,1):=by kernel_rfl
theorem pM:bN Tryz.prog 77 0=some (0,1):=by kernel_rfl
theorem pE:bN Tryz.prog 77 1=some (1,1):=by kernel_rfl
theorem Ms:bN Tryz.prog 80 0=some (0,1):=by kernel_rfl
theorem QK:bN Tryz.prog 80 1=some (1,1):=by kernel_rfl
theorem BX:bN Tryz.prog 80 2=some (2,2):=by kernel_rfl
theorem pl80_3:bN Tryz.prog 80 3=some (4,1):=by kernel_rfl
theorem Lx:bN Tryz.prog 80 4=some (5,1):=by kernel_rfl
theorem pl80_5:bN Tryz.prog 80 5=some (6,1):=by kernel_rfl
theorem pl80_6:bN Tryz.prog 80 6=some (7,1):=by kernel_rfl
theorem BK:bN Tryz.prog 83 0=some (0,1):=by kernel_rfl
theorem Ff:bN Tryz.prog 83 1=some (1,1):=by kernel_rfl
theorem Fa:bN Tryz.prog 83 2=some (2,1):=by kernel_rfl
theorem Mi:bN Tryz.prog 88 0=some (0,1):=by kernel_rfl
theorem L9:bN Tryz.prog 88 1=some (1,1):=by kernel_rfl
theorem MW:bN Tryz.prog 88 2=some (2,1):=by kernel_rfl
theorem oh:szT Tryz.prog 152=some 2:=by kernel_rfl
theorem Ha:szT Tryz.prog 184=some 2:=by kernel_rfl
theorem PD:szT Tryz.prog 22=some 1:=by kernel_rfl
theorem sz28:szT Tryz.prog 28=some 1:=by kernel_rfl
theorem sz3:szT Tryz.prog 3=some 1:=by kernel_rfl
theorem Ar:szT Tryz.prog 34=some 1:=by kernel_rfl
theorem BZ:szT Tryz.prog 35=some 1:=by kernel_rfl
theorem mG:szT Tryz.prog 37=some 9:=by kernel_rfl
theorem sz4:szT Tryz.prog 4=some 1:=by kernel_rfl
theorem qw:szT Tryz.prog 47=some 4:=by kernel_rfl
theorem Mt:szT Tryz.prog 75=some 13:=by kernel_rfl
theorem zV:szT Tryz.prog 77=some 2:=by kernel_rfl
theorem sz80:szT Tryz.prog 80=some 8:=by kernel_rfl
theorem Ou:szT Tryz.prog 83=some 3:=by kernel_rfl
theorem sz88:szT Tryz.prog 88=some 3:=by kernel_rfl
theorem sz9:szT Tryz.prog 9=some 1:=by kernel_rfl
theorem un110:(Tryz.prog).underlying 110=some (.slice 75):=by kernel_rfl
theorem un116:(Tryz.prog).underlying 116=some (.slice 80):=by kernel_rfl
theorem un120:(Tryz.prog).underlying 120=some (.slice 88):=by kernel_rfl
theorem un122:(Tryz.prog).underlying 122=some (.slice 28):=by kernel_rfl
theorem un134:(Tryz.prog).underlying 134=some (.int .u64):=by kernel_rfl
theorem y8:(Tryz.prog).underlying 147=some (.slice 152):=by kernel_rfl
theorem RG:(Tryz.prog).underlying 160=some (.slice 184):=by kernel_rfl
theorem un175:(Tryz.prog).underlying 175=some (.slice 35):=by kernel_rfl
theorem un21:(Tryz.prog).underlying 21=some (.int .i32):=by kernel_rfl
theorem wW:(Tryz.prog).underlying 22=some (.slice 3):=by kernel_rfl
theorem zI:(Tryz.prog).underlying 26=some (.slice 37):=by kernel_rfl
theorem un3:(Tryz.prog).underlying 3=some (.int .i64):=by kernel_rfl
theorem ru:(Tryz.prog).underlying 34=some (.slice 9):=by kernel_rfl
theorem yX:(Tryz.prog).underlying 35=some (.slice 47):=by kernel_rfl
theorem un4:(Tryz.prog).underlying 4=some .bool:=by kernel_rfl
theorem un5:(Tryz.prog).underlying 5=some (.int .u8):=by kernel_rfl
theorem un71:(Tryz.prog).underlying 71=some (.slice 77):=by kernel_rfl
theorem un84:(Tryz.prog).underlying 84=some (.slice 83):=by kernel_rfl
theorem un9:(Tryz.prog).underlying 9=some .string:=by kernel_rfl
theorem un93:(Tryz.prog).underlying 93=some (.int .u64):=by kernel_rfl
theorem z152:zeroCells Tryz.prog 152=some [.d (.int .i64 0),.d (.int .i64 0)]:=by kernel_rfl
theorem z184:zeroCells Tryz.prog 184=some [.d (.int .i64 0),.d (.int .i64 0)]:=by kernel_rfl
theorem z3:zeroCells Tryz.prog 3=some [.d (.int .i64 0)]:=by kernel_rfl
theorem z37:zeroCells Tryz.prog 37=some [.d (.str ⟨#[]⟩),.d (.str ⟨#[]⟩),.d (.int .i64 0),.nil,.d (.int .i64 0),.d (.int .i64 0),.d (.int .i64 0),.nil,.d (.str ⟨#[]⟩)]:=by kernel_rfl
theorem z47:zeroCells Tryz.prog 47=some [.d (.int .i64 0),.d (.int .i64 0),.d (.int .i64 0),.d (.int .i64 0)]:=by kernel_rfl
theorem z55:zeroCells Tryz.prog 55=some [.d .nilp,.nil]:=by kernel_rfl
theorem z75:zeroCells Tryz.prog 75=some [.d (.str ⟨#[]⟩),.d (.str ⟨#[]⟩),.d (.int .i64 0),.d (.int .i64 0),.d (.int .i64 0),.d (.int .i64 0),.d (.int .i64 0),.nil,.d (.int .i64 0),.d (.int .i64 0),.d (.int .i64 0),.nil,.d (.bool false)]:=by kernel_rfl
theorem z77:zeroCells Tryz.prog 77=some [.d (.int .i64 0),.d (.int .i64 0)]:=by kernel_rfl
theorem z80:zeroCells Tryz.prog 80=some [.d (.str ⟨#[]⟩),.d (.str ⟨#[]⟩),.d (.int .i64 0),.d (.int .i64 0),.nil,.d (.int .i64 0),.d (.int .i64 0),.d (.int .i64 0)]:=by kernel_rfl
theorem z83:zeroCells Tryz.prog 83=some [.d (.str ⟨#[]⟩),.d (.int .i64 0),.d (.int .i64 0)]:=by kernel_rfl
theorem z88:zeroCells Tryz.prog 88=some [.d (.str ⟨#[]⟩),.d (.int .i64 0),.d (.int .i64 0)]:=by kernel_rfl
theorem z9:zeroCells Tryz.prog 9=some [.d (.str ⟨#[]⟩)]:=by kernel_rfl
theorem MO : ∀ w, Go.Eng.wQ w → Go.Lib.TabIs Go.Proofs.Tryz.prog w "internal/strconv.uint64pow10" .u64 Go.Lib.pow10Tab := fun _ h => h.1
theorem De:∀w,Go.Eng.wQ w->(∃m,w.cell? ⟨2,0,none⟩=some (.int .i64 m)):=λ_ h=>h.2.1
theorem Pn:∀w,Go.Eng.wQ w->Go.Lib.Utf8Tabs 0 1 w:=λ_ h=>h.2.2
end Go.Proofs.YtljhfffghjclfabGreatDoor.Law

