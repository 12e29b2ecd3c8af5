/-
  Closed facts on the types and functions of the program.
-/
import Derived.Test.YtigdobmllbakiaaGreatDoorProg
import Derived.Test.YtigdobmllbakiaaGreatDoorEng5
open Go Go.Eng Go.Proofs
namespace Go.Proofs.YtigdobmllbakiaaGreatDoor.Law
set_option maxRecDepth 100000
set_option linter.unusedVariables false
set_option maxHeartbeats 1000000
theorem vY:bX Tryz.prog 139=true:=by kernel_rfl
theorem lb_ {a b:Nat} (h:Nat.ble a b=true):a<=b:=Nat.le_of_ble_eq_true h
abbrev SL_:=List (Nat×V)
theorem ag170:bX Tryz.prog 170=true:=by kernel_rfl
theorem Cb:bX Tryz.prog 22=false:=by kernel_rfl
theorem ag28:bX Tryz.prog 28=false:=by kernel_rfl
theorem ag3:bX Tryz.prog 3=false:=by kernel_rfl
theorem Cs:bX Tryz.prog 34=false:=by kernel_rfl
theorem ql:bX Tryz.prog 36=true:=by kernel_rfl
theorem ag4:bX Tryz.prog 4=false:=by kernel_rfl
theorem Gm:bX Tryz.prog 68=true:=by kernel_rfl
theorem LV:bX Tryz.prog 69=false:=by kernel_rfl
theorem EZ:bX Tryz.prog 74=true:=by kernel_rfl
theorem ag77:bX Tryz.prog 77=true:=by kernel_rfl
theorem ag80:bX Tryz.prog 80=true:=by kernel_rfl
theorem FC:bX Tryz.prog 83=true:=by kernel_rfl
theorem ag87:bX Tryz.prog 87=true:=by kernel_rfl
theorem ag9:bX Tryz.prog 9=false:=by kernel_rfl
theorem Kc:bytesT Tryz.prog 139=16:=by kernel_rfl
theorem by170:bytesT Tryz.prog 170=16:=by kernel_rfl
theorem by3:bytesT Tryz.prog 3=8:=by kernel_rfl
theorem by36:bytesT Tryz.prog 36=152:=by kernel_rfl
theorem by68:bytesT Tryz.prog 68=32:=by kernel_rfl
theorem by74:bytesT Tryz.prog 74=16:=by kernel_rfl
theorem by9:bytesT Tryz.prog 9=16:=by kernel_rfl
theorem AV:elemT Tryz.prog 134=some 139:=by kernel_rfl
theorem KA:elemT Tryz.prog 145=some 170:=by kernel_rfl
theorem Jh:elemT Tryz.prog 22=some 3:=by kernel_rfl
theorem el26:elemT Tryz.prog 26=some 36:=by kernel_rfl
theorem Bb:elemT Tryz.prog 34=some 9:=by kernel_rfl
theorem II:elemT Tryz.prog 69=some 68:=by kernel_rfl
theorem el70:elemT Tryz.prog 70=some 74:=by kernel_rfl
theorem Ny:(elemT Tryz.prog 111).bind (szT Tryz.prog)=some 8:=by kernel_rfl
theorem KJ:(elemT Tryz.prog 115).bind (szT Tryz.prog)=some 9:=by kernel_rfl
theorem Mj:(elemT Tryz.prog 116).bind (szT Tryz.prog)=some 3:=by kernel_rfl
theorem es118:(elemT Tryz.prog 118).bind (szT Tryz.prog)=some 1:=by kernel_rfl
theorem kC:(elemT Tryz.prog 134).bind (szT Tryz.prog)=some 2:=by kernel_rfl
theorem yw:(elemT Tryz.prog 145).bind (szT Tryz.prog)=some 2:=by kernel_rfl
theorem Nq:(elemT Tryz.prog 161).bind (szT Tryz.prog)=some 1:=by kernel_rfl
theorem iQ:(elemT Tryz.prog 22).bind (szT Tryz.prog)=some 1:=by kernel_rfl
theorem EI:(elemT Tryz.prog 26).bind (szT Tryz.prog)=some 13:=by kernel_rfl
theorem lH:(elemT Tryz.prog 34).bind (szT Tryz.prog)=some 1:=by kernel_rfl
theorem FV:(elemT Tryz.prog 69).bind (szT Tryz.prog)=some 4:=by kernel_rfl
theorem es70:(elemT Tryz.prog 70).bind (szT Tryz.prog)=some 2:=by kernel_rfl
theorem Li:(elemT Tryz.prog 81).bind (szT Tryz.prog)=some 3:=by kernel_rfl
theorem ez111:((elemT Tryz.prog 111).bind (zeroCells Tryz.prog)).isSome=true:=by kernel_rfl
theorem ez115:((elemT Tryz.prog 115).bind (zeroCells Tryz.prog)).isSome=true:=by kernel_rfl
theorem ez116:((elemT Tryz.prog 116).bind (zeroCells Tryz.prog)).isSome=true:=by kernel_rfl
theorem ez118:((elemT Tryz.prog 118).bind (zeroCells Tryz.prog)).isSome=true:=by kernel_rfl
theorem JV:((elemT Tryz.prog 134).bind (zeroCells Tryz.prog)).isSome=true:=by kernel_rfl
theorem ez145:((elemT Tryz.prog 145).bind (zeroCells Tryz.prog)).isSome=true:=by kernel_rfl
theorem ez161:((elemT Tryz.prog 161).bind (zeroCells Tryz.prog)).isSome=true:=by kernel_rfl
theorem wX:((elemT Tryz.prog 22).bind (zeroCells Tryz.prog)).isSome=true:=by kernel_rfl
theorem ez26:((elemT Tryz.prog 26).bind (zeroCells Tryz.prog)).isSome=true:=by kernel_rfl
theorem zC:((elemT Tryz.prog 34).bind (zeroCells Tryz.prog)).isSome=true:=by kernel_rfl
theorem ez69:((elemT Tryz.prog 69).bind (zeroCells Tryz.prog)).isSome=true:=by kernel_rfl
theorem ez70:((elemT Tryz.prog 70).bind (zeroCells Tryz.prog)).isSome=true:=by kernel_rfl
theorem ez81:((elemT Tryz.prog 81).bind (zeroCells Tryz.prog)).isSome=true:=by kernel_rfl
theorem hb10:aH Tryz.prog 10=true:=by kernel_rfl
theorem hb100:aH Tryz.prog 100=true:=by kernel_rfl
theorem hb106:aH Tryz.prog 106=true:=by kernel_rfl
theorem hb108:aH Tryz.prog 108=true:=by kernel_rfl
theorem hb109:aH Tryz.prog 109=true:=by kernel_rfl
theorem Mm:aH Tryz.prog 11=true:=by kernel_rfl
theorem hb110:aH Tryz.prog 110=true:=by kernel_rfl
theorem hb111:aH Tryz.prog 111=true:=by kernel_rfl
theorem hb112:aH Tryz.prog 112=true:=by kernel_rfl
theorem hb113:aH Tryz.prog 113=true:=by kernel_rfl
theorem hb114:aH Tryz.prog 114=true:=by kernel_rfl
theorem hb115:aH Tryz.prog 115=true:=by kernel_rfl
theorem hb12:aH Tryz.prog 12=true:=by kernel_rfl
theorem hb120:aH Tryz.prog 120=true:=by kernel_rfl
theorem hb121:aH Tryz.prog 121=true:=by kernel_rfl
theorem hb13:aH Tryz.prog 13=true:=by kernel_rfl
theorem hb130:aH Tryz.prog 130=true:=by kernel_rfl
theorem hb134:aH Tryz.prog 134=true:=by kernel_rfl
theorem hb135:aH Tryz.prog 135=true:=by kernel_rfl
theorem hb136:aH Tryz.prog 136=true:=by kernel_rfl
theorem hb137:aH Tryz.prog 137=true:=by kernel_rfl
theorem hb138:aH Tryz.prog 138=true:=by kernel_rfl
theorem hb139:aH Tryz.prog 139=true:=by kernel_rfl
theorem Gp:aH Tryz.prog 14=true:=by kernel_rfl
theorem hb140:aH Tryz.prog 140=true:=by kernel_rfl
theorem hb141:aH Tryz.prog 141=true:=by kernel_rfl
theorem hb146:aH Tryz.prog 146=true:=by kernel_rfl
theorem hb15:aH Tryz.prog 15=true:=by kernel_rfl
theorem KC:aH Tryz.prog 154=true:=by kernel_rfl
theorem hb155:aH Tryz.prog 155=true:=by kernel_rfl
theorem hb16:aH Tryz.prog 16=true:=by kernel_rfl
theorem hb163:aH Tryz.prog 163=true:=by kernel_rfl
theorem hb164:aH Tryz.prog 164=true:=by kernel_rfl
theorem hb165:aH Tryz.prog 165=true:=by kernel_rfl
theorem hb166:aH Tryz.prog 166=true:=by kernel_rfl
theorem hb169:aH Tryz.prog 169=true:=by kernel_rfl
theorem hb17:aH Tryz.prog 17=true:=by kernel_rfl
theorem hb18:aH Tryz.prog 18=true:=by kernel_rfl
theorem hb19:aH Tryz.prog 19=true:=by kernel_rfl
theorem hb20:aH Tryz.prog 20=true:=by kernel_rfl
theorem hb21:aH Tryz.prog 21=true:=by kernel_rfl
theorem hb22:aH Tryz.prog 22=true:=by kernel_rfl
theorem hb23:aH Tryz.prog 23=true:=by kernel_rfl
theorem hb24:aH Tryz.prog 24=true:=by kernel_rfl
theorem hb25:aH Tryz.prog 25=true:=by kernel_rfl
theorem hb26:aH Tryz.prog 26=true:=by kernel_rfl
theorem hb27:aH Tryz.prog 27=true:=by kernel_rfl
theorem hb28:aH Tryz.prog 28=true:=by kernel_rfl
theorem hb29:aH Tryz.prog 29=true:=by kernel_rfl
theorem hb30:aH Tryz.prog 30=true:=by kernel_rfl
theorem hb31:aH Tryz.prog 31=true:=by kernel_rfl
theorem hb32:aH Tryz.prog 32=true:=by kernel_rfl
theorem hb33:aH Tryz.prog 33=true:=by kernel_rfl
theorem JS:aH Tryz.prog 34=true:=by kernel_rfl
theorem hb35:aH Tryz.prog 35=true:=by kernel_rfl
theorem hb37:aH Tryz.prog 37=true:=by kernel_rfl
theorem Np:aH Tryz.prog 38=true:=by kernel_rfl
theorem hb39:aH Tryz.prog 39=true:=by kernel_rfl
theorem hb4:aH Tryz.prog 4=true:=by kernel_rfl
theorem hb40:aH Tryz.prog 40=true:=by kernel_rfl
theorem hb41:aH Tryz.prog 41=true:=by kernel_rfl
theorem hb42:aH Tryz.prog 42=true:=by kernel_rfl
theorem hb43:aH Tryz.prog 43=true:=by kernel_rfl
theorem hb44:aH Tryz.prog 44=true:=by kernel_rfl
theorem hb45:aH Tryz.prog 45=true:=by kernel_rfl
theorem hb5:aH Tryz.prog 5=true:=by kernel_rfl
theorem hb50:aH Tryz.prog 50=true:=by kernel_rfl
theorem hb51:aH Tryz.prog 51=true:=by kernel_rfl
theorem hb52:aH Tryz.prog 52=true:=by kernel_rfl
theorem qN:aH Tryz.prog 53=true:=by kernel_rfl
theorem hb54:aH Tryz.prog 54=true:=by kernel_rfl
theorem hb55:aH Tryz.prog 55=true:=by kernel_rfl
theorem hb56:aH Tryz.prog 56=true:=by kernel_rfl
theorem hb57:aH Tryz.prog 57=true:=by kernel_rfl
theorem JC:aH Tryz.prog 58=true:=by kernel_rfl
theorem hb59:aH Tryz.prog 59=true:=by kernel_rfl
theorem hb6:aH Tryz.prog 6=true:=by kernel_rfl
theorem hb60:aH Tryz.prog 60=true:=by kernel_rfl
theorem hb61:aH Tryz.prog 61=true:=by kernel_rfl
theorem hb62:aH Tryz.prog 62=true:=by kernel_rfl
theorem hb63:aH Tryz.prog 63=true:=by kernel_rfl
theorem CW:aH Tryz.prog 64=true:=by kernel_rfl
theorem hb65:aH Tryz.prog 65=true:=by kernel_rfl
theorem hb66:aH Tryz.prog 66=true:=by kernel_rfl
theorem hb7:aH Tryz.prog 7=true:=by kernel_rfl
theorem hb70:aH Tryz.prog 70=true:=by kernel_rfl
theorem hb71:aH Tryz.prog 71=true:=by kernel_rfl
theorem hb77:aH Tryz.prog 77=true:=by kernel_rfl
theorem hb78:aH Tryz.prog 78=true:=by kernel_rfl
theorem hb79:aH Tryz.prog 79=true:=by kernel_rfl
theorem hb8:aH Tryz.prog 8=true:=by kernel_rfl
theorem hb80:aH Tryz.prog 80=true:=by kernel_rfl
theorem hb81:aH Tryz.prog 81=true:=by kernel_rfl
theorem hb82:aH Tryz.prog 82=true:=by kernel_rfl
theorem hb83:aH Tryz.prog 83=true:=by kernel_rfl
theorem hb84:aH Tryz.prog 84=true:=by kernel_rfl
theorem hb85:aH Tryz.prog 85=true:=by kernel_rfl
theorem hb86:aH Tryz.prog 86=true:=by kernel_rfl
theorem hb87:aH Tryz.prog 87=true:=by kernel_rfl
theorem hb88:aH Tryz.prog 88=true:=by kernel_rfl
theorem hb89:aH Tryz.prog 89=true:=by kernel_rfl
theorem hb9:aH Tryz.prog 9=true:=by kernel_rfl
theorem hb90:aH Tryz.prog 90=true:=by kernel_rfl
theorem hb91:aH Tryz.prog 91=true:=by kernel_rfl
theorem hb92:aH Tryz.prog 92=true:=by kernel_rfl
theorem hb93:aH Tryz.prog 93=true:=by kernel_rfl
theorem hb94:aH Tryz.prog 94=true:=by kernel_rfl
theorem hb95:aH Tryz.prog 95=true:=by kernel_rfl
theorem hb96:aH Tryz.prog 96=true:=by kernel_rfl
theorem hb99:aH Tryz.prog 99=true:=by kernel_rfl
theorem if51:Ko Tryz.prog 51=true:=by kernel_rfl
theorem mt173:Ir Tryz.prog 173=some (9,4):=by kernel_rfl
theorem nb179:aH Tryz.prog 179=false:=by kernel_rfl
theorem kr:bQ Tryz.prog 139 0=some (0,1):=by kernel_rfl
theorem p8:bQ Tryz.prog 139 1=some (1,1):=by kernel_rfl
theorem qV:bQ Tryz.prog 170 0=some (0,1):=by kernel_rfl
theorem uE:bQ Tryz.prog 170 1=some (1,1):=by kernel_rfl
theorem Gi:bQ Tryz.prog 25 0=some (0,1):=by kernel_rfl
theorem Cn:bQ Tryz.prog 25 1=some (1,1):=by kernel_rfl
theorem Dn:bQ Tryz.prog 36 0=some (0,1):=by kernel_rfl
theorem JJ:bQ Tryz.prog 36 1=some (1,1):=by kernel_rfl
theorem E8:bQ Tryz.prog 36 10=some (10,1):=by kernel_rfl
theorem pW:bQ Tryz.prog 36 11=some (11,1):=by kernel_rfl
theorem Fe:bQ Tryz.prog 36 12=some (12,1):=by kernel_rfl
theorem Jy:bQ Tryz.prog 36 2=some (2,1):=by kernel_rfl
theorem xM:bQ Tryz.prog 36 3=some (3,1):=by kernel_rfl
theorem xY:bQ Tryz.prog 36 4=some (4,1):=by kernel_rfl
theorem Fs:bQ Tryz.prog 36 5=some (5,1):=by kernel_rfl
theorem FN:bQ Tryz.prog 36 6=some (6,1):=by kernel_rfl
theorem rO:bQ Tryz.prog 36 7=some (7,1):=by kernel_rfl
theorem CL:bQ Tryz.prog 36 8=some (8,1):=by kernel_rfl
theorem Fb:bQ Tryz.prog 36 9=some (9,1):=by kernel_rfl
theorem zk:bQ Tryz.prog 68 0=some (0,1):=by kernel_rfl
theorem vC:bQ Tryz.prog 68 1=some (1,1):=by kernel_rfl
theorem Gj:bQ Tryz.prog 68 2=some (2,1):=by kernel_rfl
theorem BQ:bQ Tryz.prog 68 3=some (3,1):=by kernel_rfl
theorem nJ:bQ Tryz.prog 74 0=some (0,1):=by kernel_rfl
theorem nE:bQ Tryz.prog 74 1=some (1,1):=by kernel_rfl
theorem Jp:bQ Tryz.prog 77 0=some (0,1):=by kernel_rfl
theorem M3:bQ Tryz.prog 77 1=some (1,1):=by kernel_rfl
theorem zX:bQ Tryz.prog 77 2=some (2,2):=by kernel_rfl
theorem pl77_3:bQ Tryz.prog 77 3=some (4,1):=by kernel_rfl
theorem Jc:bQ Tryz.prog 77 4=some (5,1):=by kernel_rfl
theorem pl77_5:bQ Tryz.prog 77 5=some (6,1):=by kernel_rfl
theorem pl77_6:bQ Tryz.prog 77 6=some (7,1):=by kernel_rfl
theorem zn:bQ Tryz.prog 80 0=some (0,1):=by kernel_rfl
theorem Da:bQ Tryz.prog 80 1=some (1,1):=by kernel_rfl
theorem Ch:bQ Tryz.prog 80 2=some (2,1):=by kernel_rfl
theorem zo:bQ Tryz.prog 83 0=some (0,1):=by kernel_rfl
theorem pl83_1:bQ Tryz.prog 83 1=some (1,1):=by kernel_rfl
theorem Jw:bQ Tryz.prog 83 2=some (2,1):=by kernel_rfl
theorem Fw:bQ Tryz.prog 83 3=some (3,1):=by kernel_rfl
theorem Bw:bQ Tryz.prog 83 4=some (4,1):=by kernel_rfl
theorem pl83_5:bQ Tryz.prog 83 5=some (5,1):=by kernel_rfl
theorem pl83_6:bQ Tryz.prog 83 6=some (6,1):=by kernel_rfl
theorem ER:bQ Tryz.prog 83 7=some (7,1):=by kernel_rfl
theorem Jb:bQ Tryz.prog 83 8=some (8,1):=by kernel_rfl
theorem JK:bQ Tryz.prog 87 0=some (0,1):=by kernel_rfl
theorem IX:bQ Tryz.prog 87 1=some (1,1):=by kernel_rfl
theorem Iw:bQ Tryz.prog 87 2=some (2,1):=by kernel_rfl
theorem mG:szT Tryz.prog 139=some 2:=by kernel_rfl
theorem Ep:szT Tryz.prog 170=some 2:=by kernel_rfl
theorem yu:szT Tryz.prog 22=some 1:=by kernel_rfl
theorem sz28:szT Tryz.prog 28=some 1:=by kernel_rfl
theorem sz3:szT Tryz.prog 3=some 1:=by kernel_rfl
theorem yZ:szT Tryz.prog 34=some 1:=by kernel_rfl
theorem jW:szT Tryz.prog 36=some 13:=by kernel_rfl
theorem sz4:szT Tryz.prog 4=some 1:=by kernel_rfl
theorem vk:szT Tryz.prog 68=some 4:=by kernel_rfl
theorem La:szT Tryz.prog 69=some 1:=by kernel_rfl
theorem xX:szT Tryz.prog 74=some 2:=by kernel_rfl
theorem sz77:szT Tryz.prog 77=some 8:=by kernel_rfl
theorem K3:szT Tryz.prog 80=some 3:=by kernel_rfl
theorem Ba:szT Tryz.prog 83=some 9:=by kernel_rfl
theorem sz87:szT Tryz.prog 87=some 3:=by kernel_rfl
theorem sz9:szT Tryz.prog 9=some 1:=by kernel_rfl
theorem un111:(Tryz.prog).underlying 111=some (.slice 77):=by kernel_rfl
theorem MH:(Tryz.prog).underlying 115=some (.slice 83):=by kernel_rfl
theorem un116:(Tryz.prog).underlying 116=some (.slice 87):=by kernel_rfl
theorem un118:(Tryz.prog).underlying 118=some (.slice 28):=by kernel_rfl
theorem xB:(Tryz.prog).underlying 134=some (.slice 139):=by kernel_rfl
theorem Md:(Tryz.prog).underlying 145=some (.slice 170):=by kernel_rfl
theorem MN:(Tryz.prog).underlying 156=some (.int .u64):=by kernel_rfl
theorem un161:(Tryz.prog).underlying 161=some (.slice 69):=by kernel_rfl
theorem un176:(Tryz.prog).underlying 176=some (.int .u64):=by kernel_rfl
theorem un21:(Tryz.prog).underlying 21=some (.int .i32):=by kernel_rfl
theorem pV:(Tryz.prog).underlying 22=some (.slice 3):=by kernel_rfl
theorem IG:(Tryz.prog).underlying 26=some (.slice 36):=by kernel_rfl
theorem un3:(Tryz.prog).underlying 3=some (.int .i64):=by kernel_rfl
theorem qQ:(Tryz.prog).underlying 34=some (.slice 9):=by kernel_rfl
theorem un4:(Tryz.prog).underlying 4=some .bool:=by kernel_rfl
theorem un5:(Tryz.prog).underlying 5=some (.int .u8):=by kernel_rfl
theorem zI:(Tryz.prog).underlying 69=some (.slice 68):=by kernel_rfl
theorem un70:(Tryz.prog).underlying 70=some (.slice 74):=by kernel_rfl
theorem un81:(Tryz.prog).underlying 81=some (.slice 80):=by kernel_rfl
theorem un9:(Tryz.prog).underlying 9=some .string:=by kernel_rfl
theorem z139:zeroCells Tryz.prog 139=some [.d (.int .i64 0),.d (.int .i64 0)]:=by kernel_rfl
theorem z170:zeroCells Tryz.prog 170=some [.d (.int .i64 0),.d (.int .i64 0)]:=by kernel_rfl
theorem z3:zeroCells Tryz.prog 3=some [.d (.int .i64 0)]:=by kernel_rfl
theorem z36:zeroCells Tryz.prog 36=some [.d (.str ⟨#[]⟩),.d (.str ⟨#[]⟩),.d (.int .i64 0),.d (.int .i64 0),.d (.int .i64 0),.d (.int .i64 0),.d (.int .i64 0),.nil,.d (.int .i64 0),.d (.int .i64 0),.d (.int .i64 0),.nil,.d (.bool false)]:=by kernel_rfl
theorem z49:zeroCells Tryz.prog 49=some [.d .nilp,.nil]:=by kernel_rfl
theorem z68:zeroCells Tryz.prog 68=some [.d (.int .i64 0),.d (.int .i64 0),.d (.int .i64 0),.d (.int .i64 0)]:=by kernel_rfl
theorem z74:zeroCells Tryz.prog 74=some [.d (.int .i64 0),.d (.int .i64 0)]:=by kernel_rfl
theorem z77:zeroCells Tryz.prog 77=some [.d (.str ⟨#[]⟩),.d (.str ⟨#[]⟩),.d (.int .i64 0),.d (.int .i64 0),.nil,.d (.int .i64 0),.d (.int .i64 0),.d (.int .i64 0)]:=by kernel_rfl
theorem z80:zeroCells Tryz.prog 80=some [.d (.str ⟨#[]⟩),.d (.int .i64 0),.d (.int .i64 0)]:=by kernel_rfl
theorem z83:zeroCells Tryz.prog 83=some [.d (.str ⟨#[]⟩),.d (.str ⟨#[]⟩),.d (.int .i64 0),.nil,.d (.int .i64 0),.d (.int .i64 0),.d (.int .i64 0),.nil,.d (.str ⟨#[]⟩)]:=by kernel_rfl
theorem z87:zeroCells Tryz.prog 87=some [.d (.str ⟨#[]⟩),.d (.int .i64 0),.d (.int .i64 0)]:=by kernel_rfl
theorem z9:zeroCells Tryz.prog 9=some [.d (.str ⟨#[]⟩)]:=by kernel_rfl
theorem IQ : ∀ w, Go.Eng.su w → Go.Lib.TabIs Go.Proofs.Tryz.prog w "internal/strconv.uint64pow10" .u64 Go.Lib.pow10Tab := fun _ h => h.2.1
theorem vo:∀w,Go.Eng.su w->(∃m,w.cell? ⟨0,0,none⟩=some (.int .i64 m)):=λ_ h=>h.2.2.1
theorem LA:∀w,Go.Eng.su w->Go.Lib.Utf8Tabs 1 2 w:=λ_ h=>h.2.2.2
end Go.Proofs.YtigdobmllbakiaaGreatDoor.Law

