/-
  Closed facts on the types and functions of the program.
-/
import Derived.Test.YtnfojnnfidnikaaGreatDoorProg
import Derived.Test.YtnfojnnfidnikaaGreatDoorEng5
open Go Go.Eng Go.Proofs
namespace Go.Proofs.YtnfojnnfidnikaaGreatDoor.Law
set_option maxRecDepth 100000
set_option linter.unusedVariables false
set_option maxHeartbeats 1000000
theorem lb_ {a b:Nat} (h:Nat.ble a b=true):a<=b:=Nat.le_of_ble_eq_true h
abbrev SL_:=List (Nat×V)
theorem ag130:bJ Tryz.prog 130=true:=by kernel_rfl
theorem vQ:bJ Tryz.prog 157=true:=by kernel_rfl
theorem MN:bJ Tryz.prog 22=false:=by kernel_rfl
theorem ag3:bJ Tryz.prog 3=false:=by kernel_rfl
theorem ag31:bJ Tryz.prog 31=false:=by kernel_rfl
theorem N8:bJ Tryz.prog 36=true:=by kernel_rfl
theorem ag4:bJ Tryz.prog 4=false:=by kernel_rfl
theorem J9:bJ Tryz.prog 42=true:=by kernel_rfl
theorem Nk:bJ Tryz.prog 45=false:=by kernel_rfl
theorem Ia:bJ Tryz.prog 49=true:=by kernel_rfl
theorem ag5:bJ Tryz.prog 5=false:=by kernel_rfl
theorem ag53:bJ Tryz.prog 53=true:=by kernel_rfl
theorem Ph:bJ Tryz.prog 60=true:=by kernel_rfl
theorem IU:bJ Tryz.prog 74=true:=by kernel_rfl
theorem Mi:bJ Tryz.prog 75=false:=by kernel_rfl
theorem Mt:bJ Tryz.prog 80=true:=by kernel_rfl
theorem Gw:bJ Tryz.prog 82=true:=by kernel_rfl
theorem ag85:bJ Tryz.prog 85=true:=by kernel_rfl
theorem Hw:bJ Tryz.prog 88=true:=by kernel_rfl
theorem ag9:bJ Tryz.prog 9=false:=by kernel_rfl
theorem ag92:bJ Tryz.prog 92=true:=by kernel_rfl
theorem by130:fA Tryz.prog 130=16:=by kernel_rfl
theorem LP:fA Tryz.prog 157=16:=by kernel_rfl
theorem by3:fA Tryz.prog 3=8:=by kernel_rfl
theorem by36:fA Tryz.prog 36=48:=by kernel_rfl
theorem by42:fA Tryz.prog 42=56:=by kernel_rfl
theorem by49:fA Tryz.prog 49=72:=by kernel_rfl
theorem by53:fA Tryz.prog 53=32:=by kernel_rfl
theorem by60:fA Tryz.prog 60=16:=by kernel_rfl
theorem by74:fA Tryz.prog 74=32:=by kernel_rfl
theorem by82:fA Tryz.prog 82=16:=by kernel_rfl
theorem by9:fA Tryz.prog 9=16:=by kernel_rfl
theorem AX:bD Tryz.prog 152=some 157:=by kernel_rfl
theorem GY:bD Tryz.prog 22=some 3:=by kernel_rfl
theorem el26:bD Tryz.prog 26=some 49:=by kernel_rfl
theorem el28:bD Tryz.prog 28=some 53:=by kernel_rfl
theorem el30:bD Tryz.prog 30=some 36:=by kernel_rfl
theorem el37:bD Tryz.prog 37=some 42:=by kernel_rfl
theorem el45:bD Tryz.prog 45=some 9:=by kernel_rfl
theorem el56:bD Tryz.prog 56=some 60:=by kernel_rfl
theorem JU:bD Tryz.prog 75=some 74:=by kernel_rfl
theorem el76:bD Tryz.prog 76=some 82:=by kernel_rfl
theorem el99:bD Tryz.prog 99=some 130:=by kernel_rfl
theorem PR:(bD Tryz.prog 112).bind (szT Tryz.prog)=some 13:=by kernel_rfl
theorem Pq:(bD Tryz.prog 117).bind (szT Tryz.prog)=some 8:=by kernel_rfl
theorem Lx:(bD Tryz.prog 121).bind (szT Tryz.prog)=some 9:=by kernel_rfl
theorem Ow:(bD Tryz.prog 122).bind (szT Tryz.prog)=some 3:=by kernel_rfl
theorem es124:(bD Tryz.prog 124).bind (szT Tryz.prog)=some 1:=by kernel_rfl
theorem es126:(bD Tryz.prog 126).bind (szT Tryz.prog)=some 1:=by kernel_rfl
theorem lh:(bD Tryz.prog 152).bind (szT Tryz.prog)=some 2:=by kernel_rfl
theorem PI:(bD Tryz.prog 186).bind (szT Tryz.prog)=some 1:=by kernel_rfl
theorem mQ:(bD Tryz.prog 22).bind (szT Tryz.prog)=some 1:=by kernel_rfl
theorem GR:(bD Tryz.prog 26).bind (szT Tryz.prog)=some 6:=by kernel_rfl
theorem KQ:(bD Tryz.prog 28).bind (szT Tryz.prog)=some 3:=by kernel_rfl
theorem EB:(bD Tryz.prog 30).bind (szT Tryz.prog)=some 4:=by kernel_rfl
theorem es37:(bD Tryz.prog 37).bind (szT Tryz.prog)=some 5:=by kernel_rfl
theorem CJ:(bD Tryz.prog 45).bind (szT Tryz.prog)=some 1:=by kernel_rfl
theorem Ho:(bD Tryz.prog 56).bind (szT Tryz.prog)=some 2:=by kernel_rfl
theorem FQ:(bD Tryz.prog 75).bind (szT Tryz.prog)=some 4:=by kernel_rfl
theorem es76:(bD Tryz.prog 76).bind (szT Tryz.prog)=some 2:=by kernel_rfl
theorem FT:(bD Tryz.prog 99).bind (szT Tryz.prog)=some 2:=by kernel_rfl
theorem ez112:((bD Tryz.prog 112).bind (zeroCells Tryz.prog)).isSome=true:=by kernel_rfl
theorem ez117:((bD Tryz.prog 117).bind (zeroCells Tryz.prog)).isSome=true:=by kernel_rfl
theorem ez121:((bD Tryz.prog 121).bind (zeroCells Tryz.prog)).isSome=true:=by kernel_rfl
theorem ez122:((bD Tryz.prog 122).bind (zeroCells Tryz.prog)).isSome=true:=by kernel_rfl
theorem ez124:((bD Tryz.prog 124).bind (zeroCells Tryz.prog)).isSome=true:=by kernel_rfl
theorem LH:((bD Tryz.prog 152).bind (zeroCells Tryz.prog)).isSome=true:=by kernel_rfl
theorem ez186:((bD Tryz.prog 186).bind (zeroCells Tryz.prog)).isSome=true:=by kernel_rfl
theorem x9:((bD Tryz.prog 22).bind (zeroCells Tryz.prog)).isSome=true:=by kernel_rfl
theorem ez26:((bD Tryz.prog 26).bind (zeroCells Tryz.prog)).isSome=true:=by kernel_rfl
theorem ez28:((bD Tryz.prog 28).bind (zeroCells Tryz.prog)).isSome=true:=by kernel_rfl
theorem ez30:((bD Tryz.prog 30).bind (zeroCells Tryz.prog)).isSome=true:=by kernel_rfl
theorem ez37:((bD Tryz.prog 37).bind (zeroCells Tryz.prog)).isSome=true:=by kernel_rfl
theorem ez45:((bD Tryz.prog 45).bind (zeroCells Tryz.prog)).isSome=true:=by kernel_rfl
theorem ez56:((bD Tryz.prog 56).bind (zeroCells Tryz.prog)).isSome=true:=by kernel_rfl
theorem ez75:((bD Tryz.prog 75).bind (zeroCells Tryz.prog)).isSome=true:=by kernel_rfl
theorem ez76:((bD Tryz.prog 76).bind (zeroCells Tryz.prog)).isSome=true:=by kernel_rfl
theorem ez99:((bD Tryz.prog 99).bind (zeroCells Tryz.prog)).isSome=true:=by kernel_rfl
theorem hb10:aL Tryz.prog 10=true:=by kernel_rfl
theorem hb100:aL Tryz.prog 100=true:=by kernel_rfl
theorem hb101:aL Tryz.prog 101=true:=by kernel_rfl
theorem hb102:aL Tryz.prog 102=true:=by kernel_rfl
theorem hb103:aL Tryz.prog 103=true:=by kernel_rfl
theorem hb11:aL Tryz.prog 11=true:=by kernel_rfl
theorem hb111:aL Tryz.prog 111=true:=by kernel_rfl
theorem hb12:aL Tryz.prog 12=true:=by kernel_rfl
theorem hb121:aL Tryz.prog 121=true:=by kernel_rfl
theorem hb122:aL Tryz.prog 122=true:=by kernel_rfl
theorem hb123:aL Tryz.prog 123=true:=by kernel_rfl
theorem hb124:aL Tryz.prog 124=true:=by kernel_rfl
theorem hb125:aL Tryz.prog 125=true:=by kernel_rfl
theorem hb126:aL Tryz.prog 126=true:=by kernel_rfl
theorem hb127:aL Tryz.prog 127=true:=by kernel_rfl
theorem hb128:aL Tryz.prog 128=true:=by kernel_rfl
theorem hb129:aL Tryz.prog 129=true:=by kernel_rfl
theorem hb13:aL Tryz.prog 13=true:=by kernel_rfl
theorem hb130:aL Tryz.prog 130=true:=by kernel_rfl
theorem hb14:aL Tryz.prog 14=true:=by kernel_rfl
theorem hb142:aL Tryz.prog 142=true:=by kernel_rfl
theorem hb143:aL Tryz.prog 143=true:=by kernel_rfl
theorem hb144:aL Tryz.prog 144=true:=by kernel_rfl
theorem hb145:aL Tryz.prog 145=true:=by kernel_rfl
theorem hb146:aL Tryz.prog 146=true:=by kernel_rfl
theorem hb15:aL Tryz.prog 15=true:=by kernel_rfl
theorem hb154:aL Tryz.prog 154=true:=by kernel_rfl
theorem hb16:aL Tryz.prog 16=true:=by kernel_rfl
theorem hb162:aL Tryz.prog 162=true:=by kernel_rfl
theorem hb163:aL Tryz.prog 163=true:=by kernel_rfl
theorem hb17:aL Tryz.prog 17=true:=by kernel_rfl
theorem GU:aL Tryz.prog 18=true:=by kernel_rfl
theorem hb19:aL Tryz.prog 19=true:=by kernel_rfl
theorem yw:aL Tryz.prog 20=true:=by kernel_rfl
theorem nZ:aL Tryz.prog 21=true:=by kernel_rfl
theorem hb22:aL Tryz.prog 22=true:=by kernel_rfl
theorem hb23:aL Tryz.prog 23=true:=by kernel_rfl
theorem hb24:aL Tryz.prog 24=true:=by kernel_rfl
theorem hb25:aL Tryz.prog 25=true:=by kernel_rfl
theorem NA:aL Tryz.prog 26=true:=by kernel_rfl
theorem MS:aL Tryz.prog 27=true:=by kernel_rfl
theorem Mk:aL Tryz.prog 28=true:=by kernel_rfl
theorem hb29:aL Tryz.prog 29=true:=by kernel_rfl
theorem hb30:aL Tryz.prog 30=true:=by kernel_rfl
theorem hb31:aL Tryz.prog 31=true:=by kernel_rfl
theorem hb32:aL Tryz.prog 32=true:=by kernel_rfl
theorem hb33:aL Tryz.prog 33=true:=by kernel_rfl
theorem hb34:aL Tryz.prog 34=true:=by kernel_rfl
theorem hb35:aL Tryz.prog 35=true:=by kernel_rfl
theorem hb36:aL Tryz.prog 36=true:=by kernel_rfl
theorem hb37:aL Tryz.prog 37=true:=by kernel_rfl
theorem hb38:aL Tryz.prog 38=true:=by kernel_rfl
theorem hb39:aL Tryz.prog 39=true:=by kernel_rfl
theorem hb4:aL Tryz.prog 4=true:=by kernel_rfl
theorem hb40:aL Tryz.prog 40=true:=by kernel_rfl
theorem hb41:aL Tryz.prog 41=true:=by kernel_rfl
theorem hb42:aL Tryz.prog 42=true:=by kernel_rfl
theorem hb43:aL Tryz.prog 43=true:=by kernel_rfl
theorem hb44:aL Tryz.prog 44=true:=by kernel_rfl
theorem hb45:aL Tryz.prog 45=true:=by kernel_rfl
theorem hb47:aL Tryz.prog 47=true:=by kernel_rfl
theorem hb49:aL Tryz.prog 49=true:=by kernel_rfl
theorem hb5:aL Tryz.prog 5=true:=by kernel_rfl
theorem hb50:aL Tryz.prog 50=true:=by kernel_rfl
theorem hb51:aL Tryz.prog 51=true:=by kernel_rfl
theorem hb52:aL Tryz.prog 52=true:=by kernel_rfl
theorem hb53:aL Tryz.prog 53=true:=by kernel_rfl
theorem hb54:aL Tryz.prog 54=true:=by kernel_rfl
theorem hb55:aL Tryz.prog 55=true:=by kernel_rfl
theorem hb56:aL Tryz.prog 56=true:=by kernel_rfl
theorem hb57:aL Tryz.prog 57=true:=by kernel_rfl
theorem hb58:aL Tryz.prog 58=true:=by kernel_rfl
theorem hb59:aL Tryz.prog 59=true:=by kernel_rfl
theorem hb6:aL Tryz.prog 6=true:=by kernel_rfl
theorem hb60:aL Tryz.prog 60=true:=by kernel_rfl
theorem hb61:aL Tryz.prog 61=true:=by kernel_rfl
theorem hb62:aL Tryz.prog 62=true:=by kernel_rfl
theorem hb63:aL Tryz.prog 63=true:=by kernel_rfl
theorem hb64:aL Tryz.prog 64=true:=by kernel_rfl
theorem hb65:aL Tryz.prog 65=true:=by kernel_rfl
theorem hb66:aL Tryz.prog 66=true:=by kernel_rfl
theorem hb7:aL Tryz.prog 7=true:=by kernel_rfl
theorem hb73:aL Tryz.prog 73=true:=by kernel_rfl
theorem hb77:aL Tryz.prog 77=true:=by kernel_rfl
theorem hb8:aL Tryz.prog 8=true:=by kernel_rfl
theorem hb87:aL Tryz.prog 87=true:=by kernel_rfl
theorem hb88:aL Tryz.prog 88=true:=by kernel_rfl
theorem hb89:aL Tryz.prog 89=true:=by kernel_rfl
theorem hb9:aL Tryz.prog 9=true:=by kernel_rfl
theorem hb90:aL Tryz.prog 90=true:=by kernel_rfl
theorem hb91:aL Tryz.prog 91=true:=by kernel_rfl
theorem hb92:aL Tryz.prog 92=true:=by kernel_rfl
theorem hb93:aL Tryz.prog 93=true:=by kernel_rfl
theorem hb94:aL Tryz.prog 94=true:=by kernel_rfl
theorem hb95:aL Tryz.prog 95=true:=by kernel_rfl
theorem hb96:aL Tryz.prog 96=true:=by kernel_rfl
theorem hb97:aL Tryz.prog 97=true:=by kernel_rfl
theorem hb98:aL Tryz.prog 98=true:=by kernel_rfl
theorem hb99:aL Tryz.prog 99=true:=by kernel_rfl
theorem mt194:xW Tryz.prog 194=some (9,4):=by kernel_rfl
theorem mt65:xW Tryz.prog 65=some (42,66):=by kernel_rfl
theorem nb86:aL Tryz.prog 86=false:=by kernel_rfl
theorem rX:bg Tryz.prog 130 0=some (0,1):=by kernel_rfl
theorem uN:bg Tryz.prog 130 1=some (1,1):=by kernel_rfl
theorem kP:bg Tryz.prog 157 0=some (0,1):=by kernel_rfl
theorem qB:bg Tryz.prog 157 1=some (1,1):=by kernel_rfl
theorem FP:bg Tryz.prog 25 0=some (0,1):=by kernel_rfl
theorem D6:bg Tryz.prog 25 1=some (1,1):=by kernel_rfl
theorem zI:bg Tryz.prog 36 0=some (0,1):=by kernel_rfl
theorem OO:bg Tryz.prog 36 1=some (1,1):=by kernel_rfl
theorem Av:bg Tryz.prog 36 2=some (2,1):=by kernel_rfl
theorem Gr:bg Tryz.prog 36 3=some (3,1):=by kernel_rfl
theorem PU:bg Tryz.prog 42 0=some (0,1):=by kernel_rfl
theorem Ou:bg Tryz.prog 42 1=some (1,1):=by kernel_rfl
theorem Ot:bg Tryz.prog 42 2=some (2,1):=by kernel_rfl
theorem Kw:bg Tryz.prog 42 3=some (3,1):=by kernel_rfl
theorem JA:bg Tryz.prog 42 4=some (4,1):=by kernel_rfl
theorem vC:bg Tryz.prog 49 0=some (0,1):=by kernel_rfl
theorem KO:bg Tryz.prog 49 1=some (1,1):=by kernel_rfl
theorem Hr:bg Tryz.prog 49 2=some (2,1):=by kernel_rfl
theorem Hg:bg Tryz.prog 49 3=some (3,1):=by kernel_rfl
theorem JN:bg Tryz.prog 49 4=some (4,1):=by kernel_rfl
theorem Ke:bg Tryz.prog 49 5=some (5,1):=by kernel_rfl
theorem zy:bg Tryz.prog 53 0=some (0,1):=by kernel_rfl
theorem Cn:bg Tryz.prog 53 1=some (1,1):=by kernel_rfl
theorem Ee:bg Tryz.prog 53 2=some (2,1):=by kernel_rfl
theorem O3:bg Tryz.prog 60 0=some (0,1):=by kernel_rfl
theorem Hq:bg Tryz.prog 60 1=some (1,1):=by kernel_rfl
theorem zK:bg Tryz.prog 74 0=some (0,1):=by kernel_rfl
theorem vJ:bg Tryz.prog 74 1=some (1,1):=by kernel_rfl
theorem Hu:bg Tryz.prog 74 2=some (2,1):=by kernel_rfl
theorem Co:bg Tryz.prog 74 3=some (3,1):=by kernel_rfl
theorem J8:bg Tryz.prog 80 0=some (0,1):=by kernel_rfl
theorem pl80_1:bg Tryz.prog 80 1=some (1,1):=by kernel_rfl
theorem pl80_10:bg Tryz.prog 80 10=some (10,1):=by kernel_rfl
theorem pl80_11:bg Tryz.prog 80 11=some (11,1):=by kernel_rfl
theorem pl80_12:bg Tryz.prog 80 12=some (12,1):=by kernel_rfl
theorem pl80_2:bg Tryz.prog 80 2=some (2,1):=by kernel_rfl
theorem G6:bg Tryz.prog 80 3=some (3,1):=by kernel_rfl
theorem G5:bg Tryz.prog 80 4=some (4,1):=by kernel_rfl
theorem O0:bg Tryz.prog 80 5=some (5,1):=by kernel_rfl
theorem PO:bg Tryz.prog 80 6=some (6,1):=by kernel_rfl
theorem OP:bg Tryz.prog 80 7=some (7,1):=by kernel_rfl
theorem JS:bg Tryz.prog 80 8=some (8,1):=by kernel_rfl
theorem NP:bg Tryz.prog 80 9=some (9,1):=by kernel_rfl
theorem oo:bg Tryz.prog 82 0=some (0,1):=by kernel_rfl
theorem oq:bg Tryz.prog 82 1=some (1,1):=by kernel_rfl
theorem JV:bg Tryz.prog 85 0=some (0,1):=by kernel_rfl
theorem PE:bg Tryz.prog 85 1=some (1,1):=by kernel_rfl
theorem zM:bg Tryz.prog 85 2=some (2,2):=by kernel_rfl
theorem pl85_3:bg Tryz.prog 85 3=some (4,1):=by kernel_rfl
theorem Jz:bg Tryz.prog 85 4=some (5,1):=by kernel_rfl
theorem pl85_5:bg Tryz.prog 85 5=some (6,1):=by kernel_rfl
theorem pl85_6:bg Tryz.prog 85 6=some (7,1):=by kernel_rfl
theorem zV:bg Tryz.prog 88 0=some (0,1):=by kernel_rfl
theorem pl88_1:bg Tryz.prog 88 1=some (1,1):=by kernel_rfl
theorem KL:bg Tryz.prog 88 2=some (2,1):=by kernel_rfl
theorem Gl:bg Tryz.prog 88 3=some (3,1):=by kernel_rfl
theorem Eg:bg Tryz.prog 88 4=some (4,1):=by kernel_rfl
theorem pl88_5:bg Tryz.prog 88 5=some (5,1):=by kernel_rfl
theorem pl88_6:bg Tryz.prog 88 6=some (6,1):=by kernel_rfl
theorem FK:bg Tryz.prog 88 7=some (7,1):=by kernel_rfl
theorem Kr:bg Tryz.prog 88 8=some (8,1):=by kernel_rfl
theorem Kl:bg Tryz.prog 92 0=some (0,1):=by kernel_rfl
theorem Ki:bg Tryz.prog 92 1=some (1,1):=by kernel_rfl
theorem JP:bg Tryz.prog 92 2=some (2,1):=by kernel_rfl
theorem pt66:LZ Tryz.prog 66=true:=by kernel_rfl
theorem EX:szT Tryz.prog 130=some 2:=by kernel_rfl
theorem nC:szT Tryz.prog 157=some 2:=by kernel_rfl
theorem MG:szT Tryz.prog 22=some 1:=by kernel_rfl
theorem sz3:szT Tryz.prog 3=some 1:=by kernel_rfl
theorem sz31:szT Tryz.prog 31=some 1:=by kernel_rfl
theorem Hm:szT Tryz.prog 36=some 4:=by kernel_rfl
theorem sz4:szT Tryz.prog 4=some 1:=by kernel_rfl
theorem Ca:szT Tryz.prog 42=some 5:=by kernel_rfl
theorem MR:szT Tryz.prog 45=some 1:=by kernel_rfl
theorem BF:szT Tryz.prog 49=some 6:=by kernel_rfl
theorem sz5:szT Tryz.prog 5=some 1:=by kernel_rfl
theorem Ka:szT Tryz.prog 53=some 3:=by kernel_rfl
theorem Er:szT Tryz.prog 60=some 2:=by kernel_rfl
theorem vR:szT Tryz.prog 74=some 4:=by kernel_rfl
theorem Mx:szT Tryz.prog 75=some 1:=by kernel_rfl
theorem Ku:szT Tryz.prog 80=some 13:=by kernel_rfl
theorem yg:szT Tryz.prog 82=some 2:=by kernel_rfl
theorem sz85:szT Tryz.prog 85=some 8:=by kernel_rfl
theorem Bp:szT Tryz.prog 88=some 9:=by kernel_rfl
theorem sz9:szT Tryz.prog 9=some 1:=by kernel_rfl
theorem sz92:szT Tryz.prog 92=some 3:=by kernel_rfl
theorem NE:(Tryz.prog).underlying 106=some (.int .u64):=by kernel_rfl
theorem un112:(Tryz.prog).underlying 112=some (.slice 80):=by kernel_rfl
theorem un117:(Tryz.prog).underlying 117=some (.slice 85):=by kernel_rfl
theorem OA:(Tryz.prog).underlying 121=some (.slice 88):=by kernel_rfl
theorem un122:(Tryz.prog).underlying 122=some (.slice 92):=by kernel_rfl
theorem un124:(Tryz.prog).underlying 124=some (.slice 31):=by kernel_rfl
theorem un125:(Tryz.prog).underlying 125=some (.int .u64):=by kernel_rfl
theorem un126:(Tryz.prog).underlying 126=some (.slice 5):=by kernel_rfl
theorem xE:(Tryz.prog).underlying 152=some (.slice 157):=by kernel_rfl
theorem un186:(Tryz.prog).underlying 186=some (.slice 75):=by kernel_rfl
theorem vk:(Tryz.prog).underlying 22=some (.slice 3):=by kernel_rfl
theorem Pb:(Tryz.prog).underlying 26=some (.slice 49):=by kernel_rfl
theorem un28:(Tryz.prog).underlying 28=some (.slice 53):=by kernel_rfl
theorem un3:(Tryz.prog).underlying 3=some (.int .i64):=by kernel_rfl
theorem Ko:(Tryz.prog).underlying 30=some (.slice 36):=by kernel_rfl
theorem un37:(Tryz.prog).underlying 37=some (.slice 42):=by kernel_rfl
theorem un4:(Tryz.prog).underlying 4=some .bool:=by kernel_rfl
theorem G9:(Tryz.prog).underlying 45=some (.slice 9):=by kernel_rfl
theorem un5:(Tryz.prog).underlying 5=some (.int .u8):=by kernel_rfl
theorem un56:(Tryz.prog).underlying 56=some (.slice 60):=by kernel_rfl
theorem Ao:(Tryz.prog).underlying 75=some (.slice 74):=by kernel_rfl
theorem un76:(Tryz.prog).underlying 76=some (.slice 82):=by kernel_rfl
theorem un9:(Tryz.prog).underlying 9=some .string:=by kernel_rfl
theorem un99:(Tryz.prog).underlying 99=some (.slice 130):=by kernel_rfl
theorem z130:zeroCells Tryz.prog 130=some [.d (.int .i64 0),.d (.int .i64 0)]:=by kernel_rfl
theorem z157:zeroCells Tryz.prog 157=some [.d (.int .i64 0),.d (.int .i64 0)]:=by kernel_rfl
theorem z3:zeroCells Tryz.prog 3=some [.d (.int .i64 0)]:=by kernel_rfl
theorem z36:zeroCells Tryz.prog 36=some [.d (.str ⟨#[]⟩),.d (.str ⟨#[]⟩),.d (.int .i64 0),.d (.int .i64 0)]:=by kernel_rfl
theorem z42:zeroCells Tryz.prog 42=some [.d (.str ⟨#[]⟩),.d (.str ⟨#[]⟩),.d (.int .i64 0),.d (.int .i64 0),.d (.int .i64 0)]:=by kernel_rfl
theorem z49:zeroCells Tryz.prog 49=some [.d (.str ⟨#[]⟩),.d (.str ⟨#[]⟩),.d (.int .i64 0),.d (.int .i64 0),.d (.int .i64 0),.d (.str ⟨#[]⟩)]:=by kernel_rfl
theorem z53:zeroCells Tryz.prog 53=some [.d (.str ⟨#[]⟩),.d (.int .i64 0),.d (.int .i64 0)]:=by kernel_rfl
theorem z60:zeroCells Tryz.prog 60=some [.d (.int .i64 0),.d (.int .i64 0)]:=by kernel_rfl
theorem z74:zeroCells Tryz.prog 74=some [.d (.int .i64 0),.d (.int .i64 0),.d (.int .i64 0),.d (.int .i64 0)]:=by kernel_rfl
theorem z80:zeroCells Tryz.prog 80=some [.d (.str ⟨#[]⟩),.d (.str ⟨#[]⟩),.d (.int .i64 0),.d (.int .i64 0),.d (.int .i64 0),.d (.int .i64 0),.d (.int .i64 0),.nil,.d (.int .i64 0),.d (.int .i64 0),.d (.int .i64 0),.nil,.d (.bool false)]:=by kernel_rfl
theorem z82:zeroCells Tryz.prog 82=some [.d (.int .i64 0),.d (.int .i64 0)]:=by kernel_rfl
theorem z85:zeroCells Tryz.prog 85=some [.d (.str ⟨#[]⟩),.d (.str ⟨#[]⟩),.d (.int .i64 0),.d (.int .i64 0),.nil,.d (.int .i64 0),.d (.int .i64 0),.d (.int .i64 0)]:=by kernel_rfl
theorem z88:zeroCells Tryz.prog 88=some [.d (.str ⟨#[]⟩),.d (.str ⟨#[]⟩),.d (.int .i64 0),.nil,.d (.int .i64 0),.d (.int .i64 0),.d (.int .i64 0),.nil,.d (.str ⟨#[]⟩)]:=by kernel_rfl
theorem z9:zeroCells Tryz.prog 9=some [.d (.str ⟨#[]⟩)]:=by kernel_rfl
theorem z92:zeroCells Tryz.prog 92=some [.d (.str ⟨#[]⟩),.d (.int .i64 0),.d (.int .i64 0)]:=by kernel_rfl
theorem KC : ∀ w, Go.Eng.xB w → Go.Lib.TabIs Go.Proofs.Tryz.prog w "internal/strconv.uint64pow10" .u64 Go.Lib.pow10Tab := fun _ h => h.1
theorem I9:∀w,Go.Eng.xB w->(∃m,w.cell? ⟨0,0,none⟩=some (.int .i64 m)):=λ_ h=>h.2.1
theorem M6:∀w,Go.Eng.xB w->Go.Lib.Utf8Tabs 1 2 w:=λ_ h=>h.2.2
end Go.Proofs.YtnfojnnfidnikaaGreatDoor.Law

