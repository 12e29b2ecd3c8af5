/-
  Closed facts on the types and functions of the program.
-/
import Derived.Test.YtnkgapmhkhcanaaGreatDoorProg
import Derived.Test.YtnkgapmhkhcanaaGreatDoorEng5
open Go Go.Eng Go.Proofs
namespace Go.Proofs.YtnkgapmhkhcanaaGreatDoor.Law
set_option maxRecDepth 100000
set_option linter.unusedVariables false
set_option maxHeartbeats 1000000
theorem PT:bR Tryz.prog 102=true:=by kernel_rfl
theorem wR:bR Tryz.prog 116=true:=by kernel_rfl
theorem lb_ {a b:Nat} (h:Nat.ble a b=true):a<=b:=Nat.le_of_ble_eq_true h
abbrev SL_:=List (Nat×V)
theorem ag177:bR Tryz.prog 177=true:=by kernel_rfl
theorem Ny:bR Tryz.prog 22=false:=by kernel_rfl
theorem jN:bR Tryz.prog 27=true:=by kernel_rfl
theorem KU:bR Tryz.prog 29=false:=by kernel_rfl
theorem ag3:bR Tryz.prog 3=false:=by kernel_rfl
theorem Am:bR Tryz.prog 30=false:=by kernel_rfl
theorem EA:bR Tryz.prog 32=true:=by kernel_rfl
theorem Dw:bR Tryz.prog 34=false:=by kernel_rfl
theorem BD:bR Tryz.prog 36=true:=by kernel_rfl
theorem ag38:bR Tryz.prog 38=false:=by kernel_rfl
theorem ag4:bR Tryz.prog 4=false:=by kernel_rfl
theorem ag49:bR Tryz.prog 49=true:=by kernel_rfl
theorem ag55:bR Tryz.prog 55=true:=by kernel_rfl
theorem Fj:bR Tryz.prog 59=true:=by kernel_rfl
theorem NE:bR Tryz.prog 65=false:=by kernel_rfl
theorem Lu:bR Tryz.prog 70=true:=by kernel_rfl
theorem Np:bR Tryz.prog 87=true:=by kernel_rfl
theorem Hw:bR Tryz.prog 89=true:=by kernel_rfl
theorem ag9:bR Tryz.prog 9=false:=by kernel_rfl
theorem ag92:bR Tryz.prog 92=true:=by kernel_rfl
theorem ag95:bR Tryz.prog 95=true:=by kernel_rfl
theorem Hz:bR Tryz.prog 98=true:=by kernel_rfl
theorem MG:fU Tryz.prog 116=16:=by kernel_rfl
theorem by177:fU Tryz.prog 177=16:=by kernel_rfl
theorem M8:fU Tryz.prog 27=32:=by kernel_rfl
theorem by3:fU Tryz.prog 3=8:=by kernel_rfl
theorem by49:fU Tryz.prog 49=48:=by kernel_rfl
theorem by55:fU Tryz.prog 55=64:=by kernel_rfl
theorem by59:fU Tryz.prog 59=48:=by kernel_rfl
theorem by70:fU Tryz.prog 70=56:=by kernel_rfl
theorem by89:fU Tryz.prog 89=16:=by kernel_rfl
theorem Cs:bP Tryz.prog 111=some 116:=by kernel_rfl
theorem LW:bP Tryz.prog 152=some 177:=by kernel_rfl
theorem Pk:bP Tryz.prog 22=some 3:=by kernel_rfl
theorem Cb:bP Tryz.prog 29=some 27:=by kernel_rfl
theorem el30:bP Tryz.prog 30=some 59:=by kernel_rfl
theorem el34:bP Tryz.prog 34=some 70:=by kernel_rfl
theorem NP:bP Tryz.prog 44=some 49:=by kernel_rfl
theorem el50:bP Tryz.prog 50=some 55:=by kernel_rfl
theorem el83:bP Tryz.prog 83=some 89:=by kernel_rfl
theorem lT:(bP Tryz.prog 111).bind (szT Tryz.prog)=some 2:=by kernel_rfl
theorem Ot:(bP Tryz.prog 123).bind (szT Tryz.prog)=some 13:=by kernel_rfl
theorem Pi:(bP Tryz.prog 128).bind (szT Tryz.prog)=some 8:=by kernel_rfl
theorem Ma:(bP Tryz.prog 132).bind (szT Tryz.prog)=some 9:=by kernel_rfl
theorem NY:(bP Tryz.prog 133).bind (szT Tryz.prog)=some 3:=by kernel_rfl
theorem es135:(bP Tryz.prog 135).bind (szT Tryz.prog)=some 1:=by kernel_rfl
theorem MN:(bP Tryz.prog 137).bind (szT Tryz.prog)=some 1:=by kernel_rfl
theorem AP:(bP Tryz.prog 152).bind (szT Tryz.prog)=some 2:=by kernel_rfl
theorem o9:(bP Tryz.prog 22).bind (szT Tryz.prog)=some 1:=by kernel_rfl
theorem tO:(bP Tryz.prog 29).bind (szT Tryz.prog)=some 4:=by kernel_rfl
theorem BZ:(bP Tryz.prog 30).bind (szT Tryz.prog)=some 5:=by kernel_rfl
theorem A8:(bP Tryz.prog 34).bind (szT Tryz.prog)=some 6:=by kernel_rfl
theorem NL:(bP Tryz.prog 44).bind (szT Tryz.prog)=some 5:=by kernel_rfl
theorem es50:(bP Tryz.prog 50).bind (szT Tryz.prog)=some 6:=by kernel_rfl
theorem Jj:(bP Tryz.prog 65).bind (szT Tryz.prog)=some 1:=by kernel_rfl
theorem es83:(bP Tryz.prog 83).bind (szT Tryz.prog)=some 2:=by kernel_rfl
theorem Nw:(bP Tryz.prog 96).bind (szT Tryz.prog)=some 3:=by kernel_rfl
theorem LZ:((bP Tryz.prog 111).bind (zeroCells Tryz.prog)).isSome=true:=by kernel_rfl
theorem ez123:((bP Tryz.prog 123).bind (zeroCells Tryz.prog)).isSome=true:=by kernel_rfl
theorem ez128:((bP Tryz.prog 128).bind (zeroCells Tryz.prog)).isSome=true:=by kernel_rfl
theorem ez132:((bP Tryz.prog 132).bind (zeroCells Tryz.prog)).isSome=true:=by kernel_rfl
theorem ez133:((bP Tryz.prog 133).bind (zeroCells Tryz.prog)).isSome=true:=by kernel_rfl
theorem ez135:((bP Tryz.prog 135).bind (zeroCells Tryz.prog)).isSome=true:=by kernel_rfl
theorem ez137:((bP Tryz.prog 137).bind (zeroCells Tryz.prog)).isSome=true:=by kernel_rfl
theorem ez152:((bP Tryz.prog 152).bind (zeroCells Tryz.prog)).isSome=true:=by kernel_rfl
theorem D8:((bP Tryz.prog 22).bind (zeroCells Tryz.prog)).isSome=true:=by kernel_rfl
theorem FI:((bP Tryz.prog 29).bind (zeroCells Tryz.prog)).isSome=true:=by kernel_rfl
theorem ez30:((bP Tryz.prog 30).bind (zeroCells Tryz.prog)).isSome=true:=by kernel_rfl
theorem ez34:((bP Tryz.prog 34).bind (zeroCells Tryz.prog)).isSome=true:=by kernel_rfl
theorem ez44:((bP Tryz.prog 44).bind (zeroCells Tryz.prog)).isSome=true:=by kernel_rfl
theorem ez50:((bP Tryz.prog 50).bind (zeroCells Tryz.prog)).isSome=true:=by kernel_rfl
theorem ez65:((bP Tryz.prog 65).bind (zeroCells Tryz.prog)).isSome=true:=by kernel_rfl
theorem ez83:((bP Tryz.prog 83).bind (zeroCells Tryz.prog)).isSome=true:=by kernel_rfl
theorem ez96:((bP Tryz.prog 96).bind (zeroCells Tryz.prog)).isSome=true:=by kernel_rfl
theorem hb10:aH Tryz.prog 10=true:=by kernel_rfl
theorem hb100:aH Tryz.prog 100=true:=by kernel_rfl
theorem hb104:aH Tryz.prog 104=true:=by kernel_rfl
theorem hb105:aH Tryz.prog 105=true:=by kernel_rfl
theorem hb106:aH Tryz.prog 106=true:=by kernel_rfl
theorem hb107:aH Tryz.prog 107=true:=by kernel_rfl
theorem hb108:aH Tryz.prog 108=true:=by kernel_rfl
theorem hb109:aH Tryz.prog 109=true:=by kernel_rfl
theorem hb11:aH Tryz.prog 11=true:=by kernel_rfl
theorem hb110:aH Tryz.prog 110=true:=by kernel_rfl
theorem hb111:aH Tryz.prog 111=true:=by kernel_rfl
theorem hb112:aH Tryz.prog 112=true:=by kernel_rfl
theorem hb113:aH Tryz.prog 113=true:=by kernel_rfl
theorem hb114:aH Tryz.prog 114=true:=by kernel_rfl
theorem hb12:aH Tryz.prog 12=true:=by kernel_rfl
theorem LM:aH Tryz.prog 120=true:=by kernel_rfl
theorem hb121:aH Tryz.prog 121=true:=by kernel_rfl
theorem hb129:aH Tryz.prog 129=true:=by kernel_rfl
theorem hb13:aH Tryz.prog 13=true:=by kernel_rfl
theorem hb130:aH Tryz.prog 130=true:=by kernel_rfl
theorem hb131:aH Tryz.prog 131=true:=by kernel_rfl
theorem hb132:aH Tryz.prog 132=true:=by kernel_rfl
theorem hb133:aH Tryz.prog 133=true:=by kernel_rfl
theorem hb134:aH Tryz.prog 134=true:=by kernel_rfl
theorem hb135:aH Tryz.prog 135=true:=by kernel_rfl
theorem hb14:aH Tryz.prog 14=true:=by kernel_rfl
theorem hb141:aH Tryz.prog 141=true:=by kernel_rfl
theorem hb142:aH Tryz.prog 142=true:=by kernel_rfl
theorem hb143:aH Tryz.prog 143=true:=by kernel_rfl
theorem hb144:aH Tryz.prog 144=true:=by kernel_rfl
theorem EP:aH Tryz.prog 147=true:=by kernel_rfl
theorem hb148:aH Tryz.prog 148=true:=by kernel_rfl
theorem hb149:aH Tryz.prog 149=true:=by kernel_rfl
theorem hb15:aH Tryz.prog 15=true:=by kernel_rfl
theorem hb155:aH Tryz.prog 155=true:=by kernel_rfl
theorem hb16:aH Tryz.prog 16=true:=by kernel_rfl
theorem hb160:aH Tryz.prog 160=true:=by kernel_rfl
theorem hb17:aH Tryz.prog 17=true:=by kernel_rfl
theorem hb18:aH Tryz.prog 18=true:=by kernel_rfl
theorem CX:aH Tryz.prog 19=true:=by kernel_rfl
theorem Oh:aH Tryz.prog 20=true:=by kernel_rfl
theorem hb21:aH Tryz.prog 21=true:=by kernel_rfl
theorem hb22:aH Tryz.prog 22=true:=by kernel_rfl
theorem hb23:aH Tryz.prog 23=true:=by kernel_rfl
theorem hb24:aH Tryz.prog 24=true:=by kernel_rfl
theorem hb25:aH Tryz.prog 25=true:=by kernel_rfl
theorem O5:aH Tryz.prog 26=true:=by kernel_rfl
theorem hb27:aH Tryz.prog 27=true:=by kernel_rfl
theorem hb28:aH Tryz.prog 28=true:=by kernel_rfl
theorem hb29:aH Tryz.prog 29=true:=by kernel_rfl
theorem hb30:aH Tryz.prog 30=true:=by kernel_rfl
theorem hb31:aH Tryz.prog 31=true:=by kernel_rfl
theorem hb32:aH Tryz.prog 32=true:=by kernel_rfl
theorem hb33:aH Tryz.prog 33=true:=by kernel_rfl
theorem hb34:aH Tryz.prog 34=true:=by kernel_rfl
theorem hb35:aH Tryz.prog 35=true:=by kernel_rfl
theorem hb36:aH Tryz.prog 36=true:=by kernel_rfl
theorem hb37:aH Tryz.prog 37=true:=by kernel_rfl
theorem hb38:aH Tryz.prog 38=true:=by kernel_rfl
theorem hb39:aH Tryz.prog 39=true:=by kernel_rfl
theorem hb4:aH Tryz.prog 4=true:=by kernel_rfl
theorem hb40:aH Tryz.prog 40=true:=by kernel_rfl
theorem hb41:aH Tryz.prog 41=true:=by kernel_rfl
theorem hb42:aH Tryz.prog 42=true:=by kernel_rfl
theorem hb43:aH Tryz.prog 43=true:=by kernel_rfl
theorem hb44:aH Tryz.prog 44=true:=by kernel_rfl
theorem hb45:aH Tryz.prog 45=true:=by kernel_rfl
theorem hb46:aH Tryz.prog 46=true:=by kernel_rfl
theorem hb47:aH Tryz.prog 47=true:=by kernel_rfl
theorem hb48:aH Tryz.prog 48=true:=by kernel_rfl
theorem hb49:aH Tryz.prog 49=true:=by kernel_rfl
theorem hb5:aH Tryz.prog 5=true:=by kernel_rfl
theorem hb50:aH Tryz.prog 50=true:=by kernel_rfl
theorem hb51:aH Tryz.prog 51=true:=by kernel_rfl
theorem hb52:aH Tryz.prog 52=true:=by kernel_rfl
theorem hb53:aH Tryz.prog 53=true:=by kernel_rfl
theorem zP:aH Tryz.prog 54=true:=by kernel_rfl
theorem hb55:aH Tryz.prog 55=true:=by kernel_rfl
theorem hb56:aH Tryz.prog 56=true:=by kernel_rfl
theorem qV:aH Tryz.prog 57=true:=by kernel_rfl
theorem hb58:aH Tryz.prog 58=true:=by kernel_rfl
theorem hb59:aH Tryz.prog 59=true:=by kernel_rfl
theorem hb6:aH Tryz.prog 6=true:=by kernel_rfl
theorem hb60:aH Tryz.prog 60=true:=by kernel_rfl
theorem hb61:aH Tryz.prog 61=true:=by kernel_rfl
theorem hb62:aH Tryz.prog 62=true:=by kernel_rfl
theorem hb63:aH Tryz.prog 63=true:=by kernel_rfl
theorem hb64:aH Tryz.prog 64=true:=by kernel_rfl
theorem hb65:aH Tryz.prog 65=true:=by kernel_rfl
theorem Kr:aH Tryz.prog 66=true:=by kernel_rfl
theorem hb67:aH Tryz.prog 67=true:=by kernel_rfl
theorem hb68:aH Tryz.prog 68=true:=by kernel_rfl
theorem hb69:aH Tryz.prog 69=true:=by kernel_rfl
theorem hb7:aH Tryz.prog 7=true:=by kernel_rfl
theorem hb70:aH Tryz.prog 70=true:=by kernel_rfl
theorem hb71:aH Tryz.prog 71=true:=by kernel_rfl
theorem NJ:aH Tryz.prog 72=true:=by kernel_rfl
theorem hb73:aH Tryz.prog 73=true:=by kernel_rfl
theorem hb74:aH Tryz.prog 74=true:=by kernel_rfl
theorem hb76:aH Tryz.prog 76=true:=by kernel_rfl
theorem hb77:aH Tryz.prog 77=true:=by kernel_rfl
theorem hb78:aH Tryz.prog 78=true:=by kernel_rfl
theorem hb79:aH Tryz.prog 79=true:=by kernel_rfl
theorem hb8:aH Tryz.prog 8=true:=by kernel_rfl
theorem hb80:aH Tryz.prog 80=true:=by kernel_rfl
theorem hb81:aH Tryz.prog 81=true:=by kernel_rfl
theorem hb82:aH Tryz.prog 82=true:=by kernel_rfl
theorem hb83:aH Tryz.prog 83=true:=by kernel_rfl
theorem hb84:aH Tryz.prog 84=true:=by kernel_rfl
theorem hb85:aH Tryz.prog 85=true:=by kernel_rfl
theorem hb86:aH Tryz.prog 86=true:=by kernel_rfl
theorem hb87:aH Tryz.prog 87=true:=by kernel_rfl
theorem hb88:aH Tryz.prog 88=true:=by kernel_rfl
theorem hb89:aH Tryz.prog 89=true:=by kernel_rfl
theorem hb9:aH Tryz.prog 9=true:=by kernel_rfl
theorem hb90:aH Tryz.prog 90=true:=by kernel_rfl
theorem hb91:aH Tryz.prog 91=true:=by kernel_rfl
theorem hb92:aH Tryz.prog 92=true:=by kernel_rfl
theorem hb93:aH Tryz.prog 93=true:=by kernel_rfl
theorem mt180:I7 Tryz.prog 180=some (9,4):=by kernel_rfl
theorem nb136:aH Tryz.prog 136=false:=by kernel_rfl
theorem nb146:aH Tryz.prog 146=false:=by kernel_rfl
theorem Hu:bC Tryz.prog 102 0=some (0,1):=by kernel_rfl
theorem Iu:bC Tryz.prog 102 1=some (1,1):=by kernel_rfl
theorem Iz:bC Tryz.prog 102 2=some (2,1):=by kernel_rfl
theorem j6:bC Tryz.prog 116 0=some (0,1):=by kernel_rfl
theorem qj:bC Tryz.prog 116 1=some (1,1):=by kernel_rfl
theorem uh:bC Tryz.prog 177 0=some (0,1):=by kernel_rfl
theorem wC:bC Tryz.prog 177 1=some (1,1):=by kernel_rfl
theorem Ie:bC Tryz.prog 25 0=some (0,1):=by kernel_rfl
theorem EI:bC Tryz.prog 25 1=some (1,1):=by kernel_rfl
theorem ic:bC Tryz.prog 27 0=some (0,1):=by kernel_rfl
theorem gu:bC Tryz.prog 27 1=some (1,1):=by kernel_rfl
theorem mg:bC Tryz.prog 27 2=some (2,1):=by kernel_rfl
theorem lQ:bC Tryz.prog 27 3=some (3,1):=by kernel_rfl
theorem PK:bC Tryz.prog 32 0=some (0,1):=by kernel_rfl
theorem xn:bC Tryz.prog 32 1=some (1,1):=by kernel_rfl
theorem xm:bC Tryz.prog 32 2=some (2,1):=by kernel_rfl
theorem nY:bC Tryz.prog 32 3=some (3,1):=by kernel_rfl
theorem Kl:bC Tryz.prog 36 0=some (0,1):=by kernel_rfl
theorem zq:bC Tryz.prog 36 1=some (1,1):=by kernel_rfl
theorem zQ:bC Tryz.prog 36 2=some (2,1):=by kernel_rfl
theorem qU:bC Tryz.prog 36 3=some (3,1):=by kernel_rfl
theorem Oj:bC Tryz.prog 49 0=some (0,1):=by kernel_rfl
theorem O4:bC Tryz.prog 49 1=some (1,4):=by kernel_rfl
theorem zh:bC Tryz.prog 59 0=some (0,1):=by kernel_rfl
theorem nV:bC Tryz.prog 59 1=some (1,4):=by kernel_rfl
theorem Ed:bC Tryz.prog 70 0=some (0,1):=by kernel_rfl
theorem xI:bC Tryz.prog 70 1=some (1,4):=by kernel_rfl
theorem FE:bC Tryz.prog 70 2=some (5,1):=by kernel_rfl
theorem KE:bC Tryz.prog 87 0=some (0,1):=by kernel_rfl
theorem pl87_1:bC Tryz.prog 87 1=some (1,1):=by kernel_rfl
theorem pl87_10:bC Tryz.prog 87 10=some (10,1):=by kernel_rfl
theorem pl87_11:bC Tryz.prog 87 11=some (11,1):=by kernel_rfl
theorem pl87_12:bC Tryz.prog 87 12=some (12,1):=by kernel_rfl
theorem pl87_2:bC Tryz.prog 87 2=some (2,1):=by kernel_rfl
theorem IX:bC Tryz.prog 87 3=some (3,1):=by kernel_rfl
theorem Hl:bC Tryz.prog 87 4=some (4,1):=by kernel_rfl
theorem PN:bC Tryz.prog 87 5=some (5,1):=by kernel_rfl
theorem PO:bC Tryz.prog 87 6=some (6,1):=by kernel_rfl
theorem O9:bC Tryz.prog 87 7=some (7,1):=by kernel_rfl
theorem Lv:bC Tryz.prog 87 8=some (8,1):=by kernel_rfl
theorem O7:bC Tryz.prog 87 9=some (9,1):=by kernel_rfl
theorem pG:bC Tryz.prog 89 0=some (0,1):=by kernel_rfl
theorem pW:bC Tryz.prog 89 1=some (1,1):=by kernel_rfl
theorem Li:bC Tryz.prog 92 0=some (0,1):=by kernel_rfl
theorem OE:bC Tryz.prog 92 1=some (1,1):=by kernel_rfl
theorem Br:bC Tryz.prog 92 2=some (2,2):=by kernel_rfl
theorem pl92_3:bC Tryz.prog 92 3=some (4,1):=by kernel_rfl
theorem Lp:bC Tryz.prog 92 4=some (5,1):=by kernel_rfl
theorem pl92_5:bC Tryz.prog 92 5=some (6,1):=by kernel_rfl
theorem pl92_6:bC Tryz.prog 92 6=some (7,1):=by kernel_rfl
theorem BA:bC Tryz.prog 95 0=some (0,1):=by kernel_rfl
theorem Ej:bC Tryz.prog 95 1=some (1,1):=by kernel_rfl
theorem Fz:bC Tryz.prog 95 2=some (2,1):=by kernel_rfl
theorem AZ:bC Tryz.prog 98 0=some (0,1):=by kernel_rfl
theorem pl98_1:bC Tryz.prog 98 1=some (1,1):=by kernel_rfl
theorem K6:bC Tryz.prog 98 2=some (2,1):=by kernel_rfl
theorem Ig:bC Tryz.prog 98 3=some (3,1):=by kernel_rfl
theorem Fb:bC Tryz.prog 98 4=some (4,1):=by kernel_rfl
theorem pl98_5:bC Tryz.prog 98 5=some (5,1):=by kernel_rfl
theorem pl98_6:bC Tryz.prog 98 6=some (6,1):=by kernel_rfl
theorem Ib:bC Tryz.prog 98 7=some (7,1):=by kernel_rfl
theorem Kv:bC Tryz.prog 98 8=some (8,1):=by kernel_rfl
theorem Mo:szT Tryz.prog 102=some 3:=by kernel_rfl
theorem mY:szT Tryz.prog 116=some 2:=by kernel_rfl
theorem GL:szT Tryz.prog 177=some 2:=by kernel_rfl
theorem NQ:szT Tryz.prog 22=some 1:=by kernel_rfl
theorem eU:szT Tryz.prog 27=some 4:=by kernel_rfl
theorem Lh:szT Tryz.prog 29=some 1:=by kernel_rfl
theorem sz3:szT Tryz.prog 3=some 1:=by kernel_rfl
theorem zC:szT Tryz.prog 30=some 1:=by kernel_rfl
theorem xC:szT Tryz.prog 32=some 4:=by kernel_rfl
theorem CO:szT Tryz.prog 34=some 1:=by kernel_rfl
theorem xe:szT Tryz.prog 36=some 4:=by kernel_rfl
theorem sz38:szT Tryz.prog 38=some 1:=by kernel_rfl
theorem sz4:szT Tryz.prog 4=some 1:=by kernel_rfl
theorem IE:szT Tryz.prog 49=some 5:=by kernel_rfl
theorem sz55:szT Tryz.prog 55=some 6:=by kernel_rfl
theorem rO:szT Tryz.prog 59=some 5:=by kernel_rfl
theorem Nz:szT Tryz.prog 65=some 1:=by kernel_rfl
theorem BS:szT Tryz.prog 70=some 6:=by kernel_rfl
theorem LG:szT Tryz.prog 87=some 13:=by kernel_rfl
theorem zi:szT Tryz.prog 89=some 2:=by kernel_rfl
theorem sz9:szT Tryz.prog 9=some 1:=by kernel_rfl
theorem sz92:szT Tryz.prog 92=some 8:=by kernel_rfl
theorem M5:szT Tryz.prog 95=some 3:=by kernel_rfl
theorem CS:szT Tryz.prog 98=some 9:=by kernel_rfl
theorem xg:(Tryz.prog).underlying 111=some (.slice 116):=by kernel_rfl
theorem un123:(Tryz.prog).underlying 123=some (.slice 87):=by kernel_rfl
theorem un128:(Tryz.prog).underlying 128=some (.slice 92):=by kernel_rfl
theorem Og:(Tryz.prog).underlying 132=some (.slice 98):=by kernel_rfl
theorem un133:(Tryz.prog).underlying 133=some (.slice 102):=by kernel_rfl
theorem un135:(Tryz.prog).underlying 135=some (.slice 38):=by kernel_rfl
theorem un137:(Tryz.prog).underlying 137=some (.slice 29):=by kernel_rfl
theorem PS:(Tryz.prog).underlying 141=some (.int .u64):=by kernel_rfl
theorem OD:(Tryz.prog).underlying 152=some (.slice 177):=by kernel_rfl
theorem Aw:(Tryz.prog).underlying 171=some (.int .u64):=by kernel_rfl
theorem vF:(Tryz.prog).underlying 22=some (.slice 3):=by kernel_rfl
theorem uC:(Tryz.prog).underlying 29=some (.slice 27):=by kernel_rfl
theorem un3:(Tryz.prog).underlying 3=some (.int .i64):=by kernel_rfl
theorem yK:(Tryz.prog).underlying 30=some (.slice 59):=by kernel_rfl
theorem J8:(Tryz.prog).underlying 34=some (.slice 70):=by kernel_rfl
theorem un4:(Tryz.prog).underlying 4=some .bool:=by kernel_rfl
theorem PD:(Tryz.prog).underlying 44=some (.slice 49):=by kernel_rfl
theorem un5:(Tryz.prog).underlying 5=some (.int .u8):=by kernel_rfl
theorem un50:(Tryz.prog).underlying 50=some (.slice 55):=by kernel_rfl
theorem Jh:(Tryz.prog).underlying 65=some (.slice 9):=by kernel_rfl
theorem un73:(Tryz.prog).underlying 73=some (.array 2 29):=by kernel_rfl
theorem un83:(Tryz.prog).underlying 83=some (.slice 89):=by kernel_rfl
theorem un9:(Tryz.prog).underlying 9=some .string:=by kernel_rfl
theorem un96:(Tryz.prog).underlying 96=some (.slice 95):=by kernel_rfl
theorem z102:zeroCells Tryz.prog 102=some [.d (.str ⟨#[]⟩),.d (.int .i64 0),.d (.int .i64 0)]:=by kernel_rfl
theorem z116:zeroCells Tryz.prog 116=some [.d (.int .i64 0),.d (.int .i64 0)]:=by kernel_rfl
theorem z177:zeroCells Tryz.prog 177=some [.d (.int .i64 0),.d (.int .i64 0)]:=by kernel_rfl
theorem z27:zeroCells Tryz.prog 27=some [.d (.int .i64 0),.d (.int .i64 0),.d (.int .i64 0),.d (.int .i64 0)]:=by kernel_rfl
theorem z3:zeroCells Tryz.prog 3=some [.d (.int .i64 0)]:=by kernel_rfl
theorem z32:zeroCells Tryz.prog 32=some [.d (.str ⟨#[]⟩),.d (.int .i64 0),.d (.int .i64 0),.nil]:=by kernel_rfl
theorem z36:zeroCells Tryz.prog 36=some [.d (.str ⟨#[]⟩),.d (.int .i64 0),.d (.int .i64 0),.nil]:=by kernel_rfl
theorem z49:zeroCells Tryz.prog 49=some [.d (.str ⟨#[]⟩),.d (.int .i64 0),.d (.int .i64 0),.d (.int .i64 0),.d (.int .i64 0)]:=by kernel_rfl
theorem z55:zeroCells Tryz.prog 55=some [.d (.str ⟨#[]⟩),.d (.str ⟨#[]⟩),.d (.int .i64 0),.d (.int .i64 0),.d (.int .i64 0),.d (.int .i64 0)]:=by kernel_rfl
theorem z59:zeroCells Tryz.prog 59=some [.d (.str ⟨#[]⟩),.d (.int .i64 0),.d (.int .i64 0),.d (.int .i64 0),.d (.int .i64 0)]:=by kernel_rfl
theorem z70:zeroCells Tryz.prog 70=some [.d (.str ⟨#[]⟩),.d (.int .i64 0),.d (.int .i64 0),.d (.int .i64 0),.d (.int .i64 0),.d (.int .i64 0)]:=by kernel_rfl
theorem z87:zeroCells Tryz.prog 87=some [.d (.str ⟨#[]⟩),.d (.str ⟨#[]⟩),.d (.int .i64 0),.d (.int .i64 0),.d (.int .i64 0),.d (.int .i64 0),.d (.int .i64 0),.nil,.d (.int .i64 0),.d (.int .i64 0),.d (.int .i64 0),.nil,.d (.bool false)]:=by kernel_rfl
theorem z89:zeroCells Tryz.prog 89=some [.d (.int .i64 0),.d (.int .i64 0)]:=by kernel_rfl
theorem z92:zeroCells Tryz.prog 92=some [.d (.str ⟨#[]⟩),.d (.str ⟨#[]⟩),.d (.int .i64 0),.d (.int .i64 0),.nil,.d (.int .i64 0),.d (.int .i64 0),.d (.int .i64 0)]:=by kernel_rfl
theorem z95:zeroCells Tryz.prog 95=some [.d (.str ⟨#[]⟩),.d (.int .i64 0),.d (.int .i64 0)]:=by kernel_rfl
theorem z98:zeroCells Tryz.prog 98=some [.d (.str ⟨#[]⟩),.d (.str ⟨#[]⟩),.d (.int .i64 0),.nil,.d (.int .i64 0),.d (.int .i64 0),.d (.int .i64 0),.nil,.d (.str ⟨#[]⟩)]:=by kernel_rfl
end Go.Proofs.YtnkgapmhkhcanaaGreatDoor.Law

