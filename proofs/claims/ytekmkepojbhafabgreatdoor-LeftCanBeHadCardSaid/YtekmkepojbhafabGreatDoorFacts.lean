/-
  Closed facts on the types and functions of the program.
-/
import Derived.Test.YtekmkepojbhafabGreatDoorProg
import Derived.Test.YtekmkepojbhafabGreatDoorEng5
open Go Go.Eng Go.Proofs
namespace Go.Proofs.YtekmkepojbhafabGreatDoor.Law
set_option maxRecDepth 100000
set_option linter.unusedVariables false
set_option maxHeartbeats 1000000
theorem x9:bT Tryz.prog 104=false:=by kernel_rfl
theorem wo:bT Tryz.prog 120=true:=by kernel_rfl
theorem lb_ {a b:Nat} (h:Nat.ble a b=true):a<=b:=Nat.le_of_ble_eq_true h
abbrev SL_:=List (Nat×V)
theorem ag142:bT Tryz.prog 142=true:=by kernel_rfl
theorem zM:bT Tryz.prog 22=false:=by kernel_rfl
theorem ag3:bT Tryz.prog 3=false:=by kernel_rfl
theorem Ea:bT Tryz.prog 31=true:=by kernel_rfl
theorem Ci:bT Tryz.prog 33=false:=by kernel_rfl
theorem xP:bT Tryz.prog 35=true:=by kernel_rfl
theorem ag36:bT Tryz.prog 36=false:=by kernel_rfl
theorem ag4:bT Tryz.prog 4=false:=by kernel_rfl
theorem JJ:bT Tryz.prog 48=true:=by kernel_rfl
theorem G9:bT Tryz.prog 60=true:=by kernel_rfl
theorem Ls:bT Tryz.prog 61=false:=by kernel_rfl
theorem LJ:bT Tryz.prog 66=true:=by kernel_rfl
theorem ag70:bT Tryz.prog 70=true:=by kernel_rfl
theorem Gs:bT Tryz.prog 73=true:=by kernel_rfl
theorem ag76:bT Tryz.prog 76=true:=by kernel_rfl
theorem ag9:bT Tryz.prog 9=false:=by kernel_rfl
theorem KO:eu Tryz.prog 120=16:=by kernel_rfl
theorem by142:eu Tryz.prog 142=16:=by kernel_rfl
theorem by22:eu Tryz.prog 22=24:=by kernel_rfl
theorem by3:eu Tryz.prog 3=8:=by kernel_rfl
theorem by31:eu Tryz.prog 31=16:=by kernel_rfl
theorem MR:eu Tryz.prog 35=96:=by kernel_rfl
theorem by48:eu Tryz.prog 48=64:=by kernel_rfl
theorem by60:eu Tryz.prog 60=32:=by kernel_rfl
theorem by9:eu Tryz.prog 9=16:=by kernel_rfl
theorem el104:bK Tryz.prog 104=some 22:=by kernel_rfl
theorem A8:bK Tryz.prog 115=some 120:=by kernel_rfl
theorem Kk:bK Tryz.prog 126=some 142:=by kernel_rfl
theorem JF:bK Tryz.prog 22=some 3:=by kernel_rfl
theorem el26:bK Tryz.prog 26=some 48:=by kernel_rfl
theorem Ei:bK Tryz.prog 28=some 35:=by kernel_rfl
theorem el33:bK Tryz.prog 33=some 9:=by kernel_rfl
theorem Jq:bK Tryz.prog 61=some 60:=by kernel_rfl
theorem el62:bK Tryz.prog 62=some 31:=by kernel_rfl
theorem Kv:(bK Tryz.prog 101).bind (szT Tryz.prog)=some 9:=by kernel_rfl
theorem NP:(bK Tryz.prog 102).bind (szT Tryz.prog)=some 3:=by kernel_rfl
theorem AY:(bK Tryz.prog 104).bind (szT Tryz.prog)=some 1:=by kernel_rfl
theorem kZ:(bK Tryz.prog 115).bind (szT Tryz.prog)=some 2:=by kernel_rfl
theorem yR:(bK Tryz.prog 126).bind (szT Tryz.prog)=some 2:=by kernel_rfl
theorem MZ:(bK Tryz.prog 132).bind (szT Tryz.prog)=some 1:=by kernel_rfl
theorem ik:(bK Tryz.prog 22).bind (szT Tryz.prog)=some 1:=by kernel_rfl
theorem LP:(bK Tryz.prog 26).bind (szT Tryz.prog)=some 5:=by kernel_rfl
theorem zU:(bK Tryz.prog 28).bind (szT Tryz.prog)=some 8:=by kernel_rfl
theorem ut:(bK Tryz.prog 33).bind (szT Tryz.prog)=some 1:=by kernel_rfl
theorem FB:(bK Tryz.prog 61).bind (szT Tryz.prog)=some 4:=by kernel_rfl
theorem es62:(bK Tryz.prog 62).bind (szT Tryz.prog)=some 2:=by kernel_rfl
theorem LH:(bK Tryz.prog 71).bind (szT Tryz.prog)=some 3:=by kernel_rfl
theorem es77:(bK Tryz.prog 77).bind (szT Tryz.prog)=some 1:=by kernel_rfl
theorem es94:(bK Tryz.prog 94).bind (szT Tryz.prog)=some 13:=by kernel_rfl
theorem ez101:((bK Tryz.prog 101).bind (zeroCells Tryz.prog)).isSome=true:=by kernel_rfl
theorem ez102:((bK Tryz.prog 102).bind (zeroCells Tryz.prog)).isSome=true:=by kernel_rfl
theorem Ko:((bK Tryz.prog 115).bind (zeroCells Tryz.prog)).isSome=true:=by kernel_rfl
theorem ez126:((bK Tryz.prog 126).bind (zeroCells Tryz.prog)).isSome=true:=by kernel_rfl
theorem ez132:((bK Tryz.prog 132).bind (zeroCells Tryz.prog)).isSome=true:=by kernel_rfl
theorem AA:((bK Tryz.prog 22).bind (zeroCells Tryz.prog)).isSome=true:=by kernel_rfl
theorem ez26:((bK Tryz.prog 26).bind (zeroCells Tryz.prog)).isSome=true:=by kernel_rfl
theorem GR:((bK Tryz.prog 28).bind (zeroCells Tryz.prog)).isSome=true:=by kernel_rfl
theorem JC:((bK Tryz.prog 33).bind (zeroCells Tryz.prog)).isSome=true:=by kernel_rfl
theorem ez61:((bK Tryz.prog 61).bind (zeroCells Tryz.prog)).isSome=true:=by kernel_rfl
theorem ez62:((bK Tryz.prog 62).bind (zeroCells Tryz.prog)).isSome=true:=by kernel_rfl
theorem ez71:((bK Tryz.prog 71).bind (zeroCells Tryz.prog)).isSome=true:=by kernel_rfl
theorem ez77:((bK Tryz.prog 77).bind (zeroCells Tryz.prog)).isSome=true:=by kernel_rfl
theorem ez94:((bK Tryz.prog 94).bind (zeroCells Tryz.prog)).isSome=true:=by kernel_rfl
theorem hb10:aI Tryz.prog 10=true:=by kernel_rfl
theorem hb100:aI Tryz.prog 100=true:=by kernel_rfl
theorem hb101:aI Tryz.prog 101=true:=by kernel_rfl
theorem hb102:aI Tryz.prog 102=true:=by kernel_rfl
theorem hb103:aI Tryz.prog 103=true:=by kernel_rfl
theorem hb104:aI Tryz.prog 104=true:=by kernel_rfl
theorem hb11:aI Tryz.prog 11=true:=by kernel_rfl
theorem Kq:aI Tryz.prog 110=true:=by kernel_rfl
theorem hb111:aI Tryz.prog 111=true:=by kernel_rfl
theorem hb119:aI Tryz.prog 119=true:=by kernel_rfl
theorem hb12:aI Tryz.prog 12=true:=by kernel_rfl
theorem hb120:aI Tryz.prog 120=true:=by kernel_rfl
theorem hb121:aI Tryz.prog 121=true:=by kernel_rfl
theorem hb122:aI Tryz.prog 122=true:=by kernel_rfl
theorem DT:aI Tryz.prog 128=true:=by kernel_rfl
theorem hb129:aI Tryz.prog 129=true:=by kernel_rfl
theorem hb13:aI Tryz.prog 13=true:=by kernel_rfl
theorem hb130:aI Tryz.prog 130=true:=by kernel_rfl
theorem hb136:aI Tryz.prog 136=true:=by kernel_rfl
theorem hb14:aI Tryz.prog 14=true:=by kernel_rfl
theorem hb142:aI Tryz.prog 142=true:=by kernel_rfl
theorem hb146:aI Tryz.prog 146=true:=by kernel_rfl
theorem hb15:aI Tryz.prog 15=true:=by kernel_rfl
theorem hb16:aI Tryz.prog 16=true:=by kernel_rfl
theorem hb17:aI Tryz.prog 17=true:=by kernel_rfl
theorem hb18:aI Tryz.prog 18=true:=by kernel_rfl
theorem hb19:aI Tryz.prog 19=true:=by kernel_rfl
theorem hb20:aI Tryz.prog 20=true:=by kernel_rfl
theorem hb21:aI Tryz.prog 21=true:=by kernel_rfl
theorem hb22:aI Tryz.prog 22=true:=by kernel_rfl
theorem hb23:aI Tryz.prog 23=true:=by kernel_rfl
theorem hb24:aI Tryz.prog 24=true:=by kernel_rfl
theorem hb25:aI Tryz.prog 25=true:=by kernel_rfl
theorem hb26:aI Tryz.prog 26=true:=by kernel_rfl
theorem hb27:aI Tryz.prog 27=true:=by kernel_rfl
theorem hb28:aI Tryz.prog 28=true:=by kernel_rfl
theorem hb29:aI Tryz.prog 29=true:=by kernel_rfl
theorem BI:aI Tryz.prog 30=true:=by kernel_rfl
theorem hb31:aI Tryz.prog 31=true:=by kernel_rfl
theorem qG:aI Tryz.prog 32=true:=by kernel_rfl
theorem hb33:aI Tryz.prog 33=true:=by kernel_rfl
theorem hb34:aI Tryz.prog 34=true:=by kernel_rfl
theorem hb35:aI Tryz.prog 35=true:=by kernel_rfl
theorem hb36:aI Tryz.prog 36=true:=by kernel_rfl
theorem hb37:aI Tryz.prog 37=true:=by kernel_rfl
theorem hb38:aI Tryz.prog 38=true:=by kernel_rfl
theorem hb39:aI Tryz.prog 39=true:=by kernel_rfl
theorem hb4:aI Tryz.prog 4=true:=by kernel_rfl
theorem hb40:aI Tryz.prog 40=true:=by kernel_rfl
theorem hb41:aI Tryz.prog 41=true:=by kernel_rfl
theorem hb42:aI Tryz.prog 42=true:=by kernel_rfl
theorem hb43:aI Tryz.prog 43=true:=by kernel_rfl
theorem hb44:aI Tryz.prog 44=true:=by kernel_rfl
theorem Jw:aI Tryz.prog 45=true:=by kernel_rfl
theorem hb46:aI Tryz.prog 46=true:=by kernel_rfl
theorem hb47:aI Tryz.prog 47=true:=by kernel_rfl
theorem hb48:aI Tryz.prog 48=true:=by kernel_rfl
theorem hb49:aI Tryz.prog 49=true:=by kernel_rfl
theorem hb5:aI Tryz.prog 5=true:=by kernel_rfl
theorem hb50:aI Tryz.prog 50=true:=by kernel_rfl
theorem hb51:aI Tryz.prog 51=true:=by kernel_rfl
theorem hb52:aI Tryz.prog 52=true:=by kernel_rfl
theorem hb53:aI Tryz.prog 53=true:=by kernel_rfl
theorem hb54:aI Tryz.prog 54=true:=by kernel_rfl
theorem hb55:aI Tryz.prog 55=true:=by kernel_rfl
theorem hb56:aI Tryz.prog 56=true:=by kernel_rfl
theorem hb57:aI Tryz.prog 57=true:=by kernel_rfl
theorem hb58:aI Tryz.prog 58=true:=by kernel_rfl
theorem hb59:aI Tryz.prog 59=true:=by kernel_rfl
theorem hb6:aI Tryz.prog 6=true:=by kernel_rfl
theorem hb60:aI Tryz.prog 60=true:=by kernel_rfl
theorem hb61:aI Tryz.prog 61=true:=by kernel_rfl
theorem hb62:aI Tryz.prog 62=true:=by kernel_rfl
theorem hb63:aI Tryz.prog 63=true:=by kernel_rfl
theorem hb64:aI Tryz.prog 64=true:=by kernel_rfl
theorem hb65:aI Tryz.prog 65=true:=by kernel_rfl
theorem hb66:aI Tryz.prog 66=true:=by kernel_rfl
theorem hb67:aI Tryz.prog 67=true:=by kernel_rfl
theorem hb68:aI Tryz.prog 68=true:=by kernel_rfl
theorem hb69:aI Tryz.prog 69=true:=by kernel_rfl
theorem hb7:aI Tryz.prog 7=true:=by kernel_rfl
theorem hb70:aI Tryz.prog 70=true:=by kernel_rfl
theorem hb71:aI Tryz.prog 71=true:=by kernel_rfl
theorem hb72:aI Tryz.prog 72=true:=by kernel_rfl
theorem hb73:aI Tryz.prog 73=true:=by kernel_rfl
theorem hb74:aI Tryz.prog 74=true:=by kernel_rfl
theorem hb76:aI Tryz.prog 76=true:=by kernel_rfl
theorem hb77:aI Tryz.prog 77=true:=by kernel_rfl
theorem hb78:aI Tryz.prog 78=true:=by kernel_rfl
theorem hb79:aI Tryz.prog 79=true:=by kernel_rfl
theorem hb8:aI Tryz.prog 8=true:=by kernel_rfl
theorem hb80:aI Tryz.prog 80=true:=by kernel_rfl
theorem hb81:aI Tryz.prog 81=true:=by kernel_rfl
theorem hb82:aI Tryz.prog 82=true:=by kernel_rfl
theorem hb83:aI Tryz.prog 83=true:=by kernel_rfl
theorem hb84:aI Tryz.prog 84=true:=by kernel_rfl
theorem hb85:aI Tryz.prog 85=true:=by kernel_rfl
theorem hb9:aI Tryz.prog 9=true:=by kernel_rfl
theorem hb92:aI Tryz.prog 92=true:=by kernel_rfl
theorem hb96:aI Tryz.prog 96=true:=by kernel_rfl
theorem hb97:aI Tryz.prog 97=true:=by kernel_rfl
theorem hb98:aI Tryz.prog 98=true:=by kernel_rfl
theorem hb99:aI Tryz.prog 99=true:=by kernel_rfl
theorem mt145:Ik Tryz.prog 145=some (9,4):=by kernel_rfl
theorem nb127:aI Tryz.prog 127=false:=by kernel_rfl
theorem nb152:aI Tryz.prog 152=false:=by kernel_rfl
theorem oM:bI Tryz.prog 106 0=some (0,1):=by kernel_rfl
theorem pl106_1:bI Tryz.prog 106 1=some (1,1):=by kernel_rfl
theorem kW:bI Tryz.prog 120 0=some (0,1):=by kernel_rfl
theorem qC:bI Tryz.prog 120 1=some (1,1):=by kernel_rfl
theorem rZ:bI Tryz.prog 142 0=some (0,1):=by kernel_rfl
theorem uR:bI Tryz.prog 142 1=some (1,1):=by kernel_rfl
theorem Gn:bI Tryz.prog 25 0=some (0,1):=by kernel_rfl
theorem Dc:bI Tryz.prog 25 1=some (1,1):=by kernel_rfl
theorem mZ:bI Tryz.prog 31 0=some (0,1):=by kernel_rfl
theorem mU:bI Tryz.prog 31 1=some (1,1):=by kernel_rfl
theorem C9:bI Tryz.prog 35 0=some (0,1):=by kernel_rfl
theorem M3:bI Tryz.prog 35 1=some (1,1):=by kernel_rfl
theorem wm:bI Tryz.prog 35 2=some (2,2):=by kernel_rfl
theorem Fv:bI Tryz.prog 35 3=some (4,1):=by kernel_rfl
theorem wM:bI Tryz.prog 35 4=some (5,1):=by kernel_rfl
theorem JQ:bI Tryz.prog 35 5=some (6,1):=by kernel_rfl
theorem pl35_6:bI Tryz.prog 35 6=some (7,1):=by kernel_rfl
theorem JS:bI Tryz.prog 48 0=some (0,1):=by kernel_rfl
theorem Jt:bI Tryz.prog 48 1=some (1,2):=by kernel_rfl
theorem J9:bI Tryz.prog 48 2=some (3,1):=by kernel_rfl
theorem F8:bI Tryz.prog 48 3=some (4,1):=by kernel_rfl
theorem zW:bI Tryz.prog 60 0=some (0,1):=by kernel_rfl
theorem wD:bI Tryz.prog 60 1=some (1,1):=by kernel_rfl
theorem Gz:bI Tryz.prog 60 2=some (2,1):=by kernel_rfl
theorem Ck:bI Tryz.prog 60 3=some (3,1):=by kernel_rfl
theorem Ji:bI Tryz.prog 66 0=some (0,1):=by kernel_rfl
theorem pl66_1:bI Tryz.prog 66 1=some (1,1):=by kernel_rfl
theorem pl66_10:bI Tryz.prog 66 10=some (10,1):=by kernel_rfl
theorem pl66_11:bI Tryz.prog 66 11=some (11,1):=by kernel_rfl
theorem pl66_12:bI Tryz.prog 66 12=some (12,1):=by kernel_rfl
theorem pl66_2:bI Tryz.prog 66 2=some (2,1):=by kernel_rfl
theorem FC:bI Tryz.prog 66 3=some (3,1):=by kernel_rfl
theorem FX:bI Tryz.prog 66 4=some (4,1):=by kernel_rfl
theorem Oa:bI Tryz.prog 66 5=some (5,1):=by kernel_rfl
theorem MH:bI Tryz.prog 66 6=some (6,1):=by kernel_rfl
theorem MX:bI Tryz.prog 66 7=some (7,1):=by kernel_rfl
theorem Jh:bI Tryz.prog 66 8=some (8,1):=by kernel_rfl
theorem Ox:bI Tryz.prog 66 9=some (9,1):=by kernel_rfl
theorem zQ:bI Tryz.prog 70 0=some (0,1):=by kernel_rfl
theorem Dx:bI Tryz.prog 70 1=some (1,1):=by kernel_rfl
theorem D8:bI Tryz.prog 70 2=some (2,1):=by kernel_rfl
theorem Aj:bI Tryz.prog 73 0=some (0,1):=by kernel_rfl
theorem pl73_1:bI Tryz.prog 73 1=some (1,1):=by kernel_rfl
theorem JG:bI Tryz.prog 73 2=some (2,1):=by kernel_rfl
theorem Fq:bI Tryz.prog 73 3=some (3,1):=by kernel_rfl
theorem Du:bI Tryz.prog 73 4=some (4,1):=by kernel_rfl
theorem pl73_5:bI Tryz.prog 73 5=some (5,1):=by kernel_rfl
theorem pl73_6:bI Tryz.prog 73 6=some (6,1):=by kernel_rfl
theorem Gl:bI Tryz.prog 73 7=some (7,1):=by kernel_rfl
theorem JA:bI Tryz.prog 73 8=some (8,1):=by kernel_rfl
theorem JE:bI Tryz.prog 76 0=some (0,1):=by kernel_rfl
theorem JU:bI Tryz.prog 76 1=some (1,1):=by kernel_rfl
theorem JI:bI Tryz.prog 76 2=some (2,1):=by kernel_rfl
theorem xX:szT Tryz.prog 104=some 1:=by kernel_rfl
theorem nu:szT Tryz.prog 120=some 2:=by kernel_rfl
theorem EG:szT Tryz.prog 142=some 2:=by kernel_rfl
theorem yj:szT Tryz.prog 22=some 1:=by kernel_rfl
theorem sz3:szT Tryz.prog 3=some 1:=by kernel_rfl
theorem xH:szT Tryz.prog 31=some 2:=by kernel_rfl
theorem Au:szT Tryz.prog 33=some 1:=by kernel_rfl
theorem pg:szT Tryz.prog 35=some 8:=by kernel_rfl
theorem sz36:szT Tryz.prog 36=some 1:=by kernel_rfl
theorem sz4:szT Tryz.prog 4=some 1:=by kernel_rfl
theorem zY:szT Tryz.prog 48=some 5:=by kernel_rfl
theorem wQ:szT Tryz.prog 60=some 4:=by kernel_rfl
theorem Mo:szT Tryz.prog 61=some 1:=by kernel_rfl
theorem JM:szT Tryz.prog 66=some 13:=by kernel_rfl
theorem LU:szT Tryz.prog 70=some 3:=by kernel_rfl
theorem BD:szT Tryz.prog 73=some 9:=by kernel_rfl
theorem sz76:szT Tryz.prog 76=some 3:=by kernel_rfl
theorem sz9:szT Tryz.prog 9=some 1:=by kernel_rfl
theorem Ni:(Tryz.prog).underlying 101=some (.slice 73):=by kernel_rfl
theorem un102:(Tryz.prog).underlying 102=some (.slice 76):=by kernel_rfl
theorem un104:(Tryz.prog).underlying 104=some (.slice 22):=by kernel_rfl
theorem GU:(Tryz.prog).underlying 109=some (.int .u64):=by kernel_rfl
theorem xR:(Tryz.prog).underlying 115=some (.slice 120):=by kernel_rfl
theorem Oq:(Tryz.prog).underlying 126=some (.slice 142):=by kernel_rfl
theorem un132:(Tryz.prog).underlying 132=some (.slice 61):=by kernel_rfl
theorem yX:(Tryz.prog).underlying 158=some (.int .u64):=by kernel_rfl
theorem ul:(Tryz.prog).underlying 22=some (.slice 3):=by kernel_rfl
theorem LK:(Tryz.prog).underlying 26=some (.slice 48):=by kernel_rfl
theorem Ha:(Tryz.prog).underlying 28=some (.slice 35):=by kernel_rfl
theorem un3:(Tryz.prog).underlying 3=some (.int .i64):=by kernel_rfl
theorem zm:(Tryz.prog).underlying 33=some (.slice 9):=by kernel_rfl
theorem un4:(Tryz.prog).underlying 4=some .bool:=by kernel_rfl
theorem un5:(Tryz.prog).underlying 5=some (.int .u8):=by kernel_rfl
theorem zT:(Tryz.prog).underlying 61=some (.slice 60):=by kernel_rfl
theorem un62:(Tryz.prog).underlying 62=some (.slice 31):=by kernel_rfl
theorem un71:(Tryz.prog).underlying 71=some (.slice 70):=by kernel_rfl
theorem un77:(Tryz.prog).underlying 77=some (.slice 36):=by kernel_rfl
theorem un9:(Tryz.prog).underlying 9=some .string:=by kernel_rfl
theorem un94:(Tryz.prog).underlying 94=some (.slice 66):=by kernel_rfl
theorem JP:zeroCells Tryz.prog 120=some [.d (.int .i64 0),.d (.int .i64 0)]:=by kernel_rfl
theorem z142:zeroCells Tryz.prog 142=some [.d (.int .i64 0),.d (.int .i64 0)]:=by kernel_rfl
theorem z22:zeroCells Tryz.prog 22=some [.nil]:=by kernel_rfl
theorem z3:zeroCells Tryz.prog 3=some [.d (.int .i64 0)]:=by kernel_rfl
theorem z31:zeroCells Tryz.prog 31=some [.d (.int .i64 0),.d (.int .i64 0)]:=by kernel_rfl
theorem z35:zeroCells Tryz.prog 35=some [.d (.str ⟨#[]⟩),.d (.str ⟨#[]⟩),.d (.int .i64 0),.d (.int .i64 0),.nil,.d (.int .i64 0),.d (.int .i64 0),.d (.int .i64 0)]:=by kernel_rfl
theorem z48:zeroCells Tryz.prog 48=some [.d (.str ⟨#[]⟩),.d (.int .i64 0),.d (.int .i64 0),.d (.int .i64 0),.nil]:=by kernel_rfl
theorem z60:zeroCells Tryz.prog 60=some [.d (.int .i64 0),.d (.int .i64 0),.d (.int .i64 0),.d (.int .i64 0)]:=by kernel_rfl
theorem z66:zeroCells Tryz.prog 66=some [.d (.str ⟨#[]⟩),.d (.str ⟨#[]⟩),.d (.int .i64 0),.d (.int .i64 0),.d (.int .i64 0),.d (.int .i64 0),.d (.int .i64 0),.nil,.d (.int .i64 0),.d (.int .i64 0),.d (.int .i64 0),.nil,.d (.bool false)]:=by kernel_rfl
theorem z70:zeroCells Tryz.prog 70=some [.d (.str ⟨#[]⟩),.d (.int .i64 0),.d (.int .i64 0)]:=by kernel_rfl
theorem z73:zeroCells Tryz.prog 73=some [.d (.str ⟨#[]⟩),.d (.str ⟨#[]⟩),.d (.int .i64 0),.nil,.d (.int .i64 0),.d (.int .i64 0),.d (.int .i64 0),.nil,.d (.str ⟨#[]⟩)]:=by kernel_rfl
theorem z76:zeroCells Tryz.prog 76=some [.d (.str ⟨#[]⟩),.d (.int .i64 0),.d (.int .i64 0)]:=by kernel_rfl
theorem z9:zeroCells Tryz.prog 9=some [.d (.str ⟨#[]⟩)]:=by kernel_rfl
end Go.Proofs.YtekmkepojbhafabGreatDoor.Law

