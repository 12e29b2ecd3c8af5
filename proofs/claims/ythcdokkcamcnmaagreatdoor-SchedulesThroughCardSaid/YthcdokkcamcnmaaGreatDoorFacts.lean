/-
  Closed facts on the types and functions of the program.
-/
import Derived.Test.YthcdokkcamcnmaaGreatDoorProg
import Derived.Test.YthcdokkcamcnmaaGreatDoorEng5
open Go Go.Eng Go.Proofs
namespace Go.Proofs.YthcdokkcamcnmaaGreatDoor.Law
set_option maxRecDepth 100000
set_option linter.unusedVariables false
set_option maxHeartbeats 1000000
theorem vM:dn Tryz.prog 22=false:=by kernel_rfl
theorem BP:dn Tryz.prog 28=false:=by kernel_rfl
theorem lb_ {a b:Nat} (h:Nat.ble a b=true):a<=b:=Nat.le_of_ble_eq_true h
abbrev SL_:=List (Nat×V)
theorem ag3:dn Tryz.prog 3=false:=by kernel_rfl
theorem mO:dn Tryz.prog 30=true:=by kernel_rfl
theorem iT:dn Tryz.prog 33=true:=by kernel_rfl
theorem ag36:dn Tryz.prog 36=false:=by kernel_rfl
theorem ag4:dn Tryz.prog 4=false:=by kernel_rfl
theorem IK:dn Tryz.prog 54=true:=by kernel_rfl
theorem Me:dn Tryz.prog 62=true:=by kernel_rfl
theorem JE:dn Tryz.prog 66=false:=by kernel_rfl
theorem kK:dn Tryz.prog 68=true:=by kernel_rfl
theorem zy:dn Tryz.prog 80=true:=by kernel_rfl
theorem ag9:dn Tryz.prog 9=false:=by kernel_rfl
theorem by3:iJ Tryz.prog 3=8:=by kernel_rfl
theorem ME:iJ Tryz.prog 33=16:=by kernel_rfl
theorem by54:iJ Tryz.prog 54=32:=by kernel_rfl
theorem by62:iJ Tryz.prog 62=32:=by kernel_rfl
theorem by68:iJ Tryz.prog 68=152:=by kernel_rfl
theorem by80:iJ Tryz.prog 80=24:=by kernel_rfl
theorem by9:iJ Tryz.prog 9=16:=by kernel_rfl
theorem C9:dB Tryz.prog 22=some 3:=by kernel_rfl
theorem el26:dB Tryz.prog 26=some 68:=by kernel_rfl
theorem Lj:dB Tryz.prog 28=some 9:=by kernel_rfl
theorem el35:dB Tryz.prog 35=some 54:=by kernel_rfl
theorem Es:dB Tryz.prog 41=some 33:=by kernel_rfl
theorem el44:dB Tryz.prog 44=some 62:=by kernel_rfl
theorem JU:dB Tryz.prog 77=some 80:=by kernel_rfl
theorem iW:(dB Tryz.prog 22).bind (szT Tryz.prog)=some 1:=by kernel_rfl
theorem qh:(dB Tryz.prog 26).bind (szT Tryz.prog)=some 13:=by kernel_rfl
theorem mQ:(dB Tryz.prog 28).bind (szT Tryz.prog)=some 1:=by kernel_rfl
theorem zf:(dB Tryz.prog 35).bind (szT Tryz.prog)=some 3:=by kernel_rfl
theorem AU:(dB Tryz.prog 41).bind (szT Tryz.prog)=some 2:=by kernel_rfl
theorem Ey:(dB Tryz.prog 44).bind (szT Tryz.prog)=some 2:=by kernel_rfl
theorem Lr:(dB Tryz.prog 73).bind (szT Tryz.prog)=some 1:=by kernel_rfl
theorem zw:(dB Tryz.prog 77).bind (szT Tryz.prog)=some 3:=by kernel_rfl
theorem es89:(dB Tryz.prog 89).bind (szT Tryz.prog)=some 1:=by kernel_rfl
theorem qA:((dB Tryz.prog 22).bind (zeroCells Tryz.prog)).isSome=true:=by kernel_rfl
theorem ez26:((dB Tryz.prog 26).bind (zeroCells Tryz.prog)).isSome=true:=by kernel_rfl
theorem vR:((dB Tryz.prog 28).bind (zeroCells Tryz.prog)).isSome=true:=by kernel_rfl
theorem ez35:((dB Tryz.prog 35).bind (zeroCells Tryz.prog)).isSome=true:=by kernel_rfl
theorem Ng:((dB Tryz.prog 41).bind (zeroCells Tryz.prog)).isSome=true:=by kernel_rfl
theorem ez44:((dB Tryz.prog 44).bind (zeroCells Tryz.prog)).isSome=true:=by kernel_rfl
theorem ez73:((dB Tryz.prog 73).bind (zeroCells Tryz.prog)).isSome=true:=by kernel_rfl
theorem ez77:((dB Tryz.prog 77).bind (zeroCells Tryz.prog)).isSome=true:=by kernel_rfl
theorem ez89:((dB Tryz.prog 89).bind (zeroCells Tryz.prog)).isSome=true:=by kernel_rfl
theorem fr68_0:Cu Tryz.prog 68 0=some (0,1,false):=by kernel_rfl
theorem fr80_0:Cu Tryz.prog 80 0=some (0,1,false):=by kernel_rfl
theorem hb10:aG Tryz.prog 10=true:=by kernel_rfl
theorem hb102:aG Tryz.prog 102=true:=by kernel_rfl
theorem Oj:aG Tryz.prog 104=true:=by kernel_rfl
theorem hb105:aG Tryz.prog 105=true:=by kernel_rfl
theorem hb106:aG Tryz.prog 106=true:=by kernel_rfl
theorem hb107:aG Tryz.prog 107=true:=by kernel_rfl
theorem hb108:aG Tryz.prog 108=true:=by kernel_rfl
theorem hb109:aG Tryz.prog 109=true:=by kernel_rfl
theorem hb11:aG Tryz.prog 11=true:=by kernel_rfl
theorem hb110:aG Tryz.prog 110=true:=by kernel_rfl
theorem hb111:aG Tryz.prog 111=true:=by kernel_rfl
theorem hb12:aG Tryz.prog 12=true:=by kernel_rfl
theorem hb120:aG Tryz.prog 120=true:=by kernel_rfl
theorem hb122:aG Tryz.prog 122=true:=by kernel_rfl
theorem hb123:aG Tryz.prog 123=true:=by kernel_rfl
theorem hb13:aG Tryz.prog 13=true:=by kernel_rfl
theorem hb132:aG Tryz.prog 132=true:=by kernel_rfl
theorem hb133:aG Tryz.prog 133=true:=by kernel_rfl
theorem hb134:aG Tryz.prog 134=true:=by kernel_rfl
theorem hb14:aG Tryz.prog 14=true:=by kernel_rfl
theorem hb147:aG Tryz.prog 147=true:=by kernel_rfl
theorem hb15:aG Tryz.prog 15=true:=by kernel_rfl
theorem hb154:aG Tryz.prog 154=true:=by kernel_rfl
theorem hb157:aG Tryz.prog 157=true:=by kernel_rfl
theorem hb158:aG Tryz.prog 158=true:=by kernel_rfl
theorem hb159:aG Tryz.prog 159=true:=by kernel_rfl
theorem hb16:aG Tryz.prog 16=true:=by kernel_rfl
theorem hb165:aG Tryz.prog 165=true:=by kernel_rfl
theorem hb169:aG Tryz.prog 169=true:=by kernel_rfl
theorem hb17:aG Tryz.prog 17=true:=by kernel_rfl
theorem hb170:aG Tryz.prog 170=true:=by kernel_rfl
theorem hb18:aG Tryz.prog 18=true:=by kernel_rfl
theorem hb182:aG Tryz.prog 182=true:=by kernel_rfl
theorem hb19:aG Tryz.prog 19=true:=by kernel_rfl
theorem hb20:aG Tryz.prog 20=true:=by kernel_rfl
theorem hb21:aG Tryz.prog 21=true:=by kernel_rfl
theorem hb22:aG Tryz.prog 22=true:=by kernel_rfl
theorem hb23:aG Tryz.prog 23=true:=by kernel_rfl
theorem hb24:aG Tryz.prog 24=true:=by kernel_rfl
theorem GU:aG Tryz.prog 25=true:=by kernel_rfl
theorem GL:aG Tryz.prog 26=true:=by kernel_rfl
theorem Oc:aG Tryz.prog 27=true:=by kernel_rfl
theorem Eo:aG Tryz.prog 28=true:=by kernel_rfl
theorem hb29:aG Tryz.prog 29=true:=by kernel_rfl
theorem hb30:aG Tryz.prog 30=true:=by kernel_rfl
theorem BV:aG Tryz.prog 31=true:=by kernel_rfl
theorem hb32:aG Tryz.prog 32=true:=by kernel_rfl
theorem hb33:aG Tryz.prog 33=true:=by kernel_rfl
theorem hb34:aG Tryz.prog 34=true:=by kernel_rfl
theorem hb35:aG Tryz.prog 35=true:=by kernel_rfl
theorem hb36:aG Tryz.prog 36=true:=by kernel_rfl
theorem hb37:aG Tryz.prog 37=true:=by kernel_rfl
theorem hb38:aG Tryz.prog 38=true:=by kernel_rfl
theorem hb39:aG Tryz.prog 39=true:=by kernel_rfl
theorem hb4:aG Tryz.prog 4=true:=by kernel_rfl
theorem Od:aG Tryz.prog 40=true:=by kernel_rfl
theorem BH:aG Tryz.prog 41=true:=by kernel_rfl
theorem hb42:aG Tryz.prog 42=true:=by kernel_rfl
theorem hb43:aG Tryz.prog 43=true:=by kernel_rfl
theorem hb44:aG Tryz.prog 44=true:=by kernel_rfl
theorem hb45:aG Tryz.prog 45=true:=by kernel_rfl
theorem hb46:aG Tryz.prog 46=true:=by kernel_rfl
theorem hb47:aG Tryz.prog 47=true:=by kernel_rfl
theorem hb48:aG Tryz.prog 48=true:=by kernel_rfl
theorem hb49:aG Tryz.prog 49=true:=by kernel_rfl
theorem hb5:aG Tryz.prog 5=true:=by kernel_rfl
theorem hb50:aG Tryz.prog 50=true:=by kernel_rfl
theorem hb51:aG Tryz.prog 51=true:=by kernel_rfl
theorem hb52:aG Tryz.prog 52=true:=by kernel_rfl
theorem hb53:aG Tryz.prog 53=true:=by kernel_rfl
theorem hb54:aG Tryz.prog 54=true:=by kernel_rfl
theorem hb55:aG Tryz.prog 55=true:=by kernel_rfl
theorem hb56:aG Tryz.prog 56=true:=by kernel_rfl
theorem hb57:aG Tryz.prog 57=true:=by kernel_rfl
theorem hb58:aG Tryz.prog 58=true:=by kernel_rfl
theorem hb59:aG Tryz.prog 59=true:=by kernel_rfl
theorem hb6:aG Tryz.prog 6=true:=by kernel_rfl
theorem hb60:aG Tryz.prog 60=true:=by kernel_rfl
theorem hb61:aG Tryz.prog 61=true:=by kernel_rfl
theorem hb62:aG Tryz.prog 62=true:=by kernel_rfl
theorem hb63:aG Tryz.prog 63=true:=by kernel_rfl
theorem hb64:aG Tryz.prog 64=true:=by kernel_rfl
theorem hb65:aG Tryz.prog 65=true:=by kernel_rfl
theorem hb66:aG Tryz.prog 66=true:=by kernel_rfl
theorem hb67:aG Tryz.prog 67=true:=by kernel_rfl
theorem hb68:aG Tryz.prog 68=true:=by kernel_rfl
theorem hb7:aG Tryz.prog 7=true:=by kernel_rfl
theorem hb73:aG Tryz.prog 73=true:=by kernel_rfl
theorem hb74:aG Tryz.prog 74=true:=by kernel_rfl
theorem DV:aG Tryz.prog 75=true:=by kernel_rfl
theorem hb76:aG Tryz.prog 76=true:=by kernel_rfl
theorem hb77:aG Tryz.prog 77=true:=by kernel_rfl
theorem hb78:aG Tryz.prog 78=true:=by kernel_rfl
theorem hb79:aG Tryz.prog 79=true:=by kernel_rfl
theorem hb8:aG Tryz.prog 8=true:=by kernel_rfl
theorem hb80:aG Tryz.prog 80=true:=by kernel_rfl
theorem hb81:aG Tryz.prog 81=true:=by kernel_rfl
theorem hb82:aG Tryz.prog 82=true:=by kernel_rfl
theorem hb83:aG Tryz.prog 83=true:=by kernel_rfl
theorem hb84:aG Tryz.prog 84=true:=by kernel_rfl
theorem hb85:aG Tryz.prog 85=true:=by kernel_rfl
theorem hb86:aG Tryz.prog 86=true:=by kernel_rfl
theorem hb87:aG Tryz.prog 87=true:=by kernel_rfl
theorem hb88:aG Tryz.prog 88=true:=by kernel_rfl
theorem hb89:aG Tryz.prog 89=true:=by kernel_rfl
theorem hb9:aG Tryz.prog 9=true:=by kernel_rfl
theorem M7:aG Tryz.prog 90=true:=by kernel_rfl
theorem hb91:aG Tryz.prog 91=true:=by kernel_rfl
theorem hb93:aG Tryz.prog 93=true:=by kernel_rfl
theorem hb94:aG Tryz.prog 94=true:=by kernel_rfl
theorem hb95:aG Tryz.prog 95=true:=by kernel_rfl
theorem hb96:aG Tryz.prog 96=true:=by kernel_rfl
theorem hb97:aG Tryz.prog 97=true:=by kernel_rfl
theorem hb98:aG Tryz.prog 98=true:=by kernel_rfl
theorem mt76:zO Tryz.prog 76=some (9,4):=by kernel_rfl
theorem mt81:zO Tryz.prog 81=some (9,9):=by kernel_rfl
theorem Nr:zO Tryz.prog 83=some (9,3):=by kernel_rfl
theorem nb121:aG Tryz.prog 121=false:=by kernel_rfl
theorem nb178:aG Tryz.prog 178=false:=by kernel_rfl
theorem FW:fK Tryz.prog 25 0=some (0,1):=by kernel_rfl
theorem Dz:fK Tryz.prog 25 1=some (1,1):=by kernel_rfl
theorem MP:fK Tryz.prog 30 0=some (0,1):=by kernel_rfl
theorem NN:fK Tryz.prog 30 1=some (1,1):=by kernel_rfl
theorem uX:fK Tryz.prog 30 2=some (2,1):=by kernel_rfl
theorem Gp:fK Tryz.prog 30 3=some (3,1):=by kernel_rfl
theorem gm:fK Tryz.prog 33 0=some (0,1):=by kernel_rfl
theorem gN:fK Tryz.prog 33 1=some (1,1):=by kernel_rfl
theorem wG:fK Tryz.prog 54 0=some (0,2):=by kernel_rfl
theorem uR:fK Tryz.prog 54 1=some (2,1):=by kernel_rfl
theorem MO:fK Tryz.prog 62 0=some (0,1):=by kernel_rfl
theorem kg:fK Tryz.prog 68 0=some (0,1):=by kernel_rfl
theorem Eb:fK Tryz.prog 68 1=some (1,1):=by kernel_rfl
theorem ve:fK Tryz.prog 68 10=some (10,1):=by kernel_rfl
theorem uV:fK Tryz.prog 68 11=some (11,1):=by kernel_rfl
theorem Ce:fK Tryz.prog 68 12=some (12,1):=by kernel_rfl
theorem Oq:fK Tryz.prog 68 2=some (2,1):=by kernel_rfl
theorem rf:fK Tryz.prog 68 3=some (3,1):=by kernel_rfl
theorem ru:fK Tryz.prog 68 4=some (4,1):=by kernel_rfl
theorem Ec:fK Tryz.prog 68 5=some (5,1):=by kernel_rfl
theorem Ef:fK Tryz.prog 68 6=some (6,1):=by kernel_rfl
theorem sZ:fK Tryz.prog 68 7=some (7,1):=by kernel_rfl
theorem yH:fK Tryz.prog 68 8=some (8,1):=by kernel_rfl
theorem CZ:fK Tryz.prog 68 9=some (9,1):=by kernel_rfl
theorem yT:fK Tryz.prog 80 0=some (0,1):=by kernel_rfl
theorem yu:fK Tryz.prog 80 1=some (1,2):=by kernel_rfl
theorem sV:szT Tryz.prog 22=some 1:=by kernel_rfl
theorem zS:szT Tryz.prog 28=some 1:=by kernel_rfl
theorem sz3:szT Tryz.prog 3=some 1:=by kernel_rfl
theorem kQ:szT Tryz.prog 30=some 4:=by kernel_rfl
theorem eX:szT Tryz.prog 33=some 2:=by kernel_rfl
theorem sz36:szT Tryz.prog 36=some 1:=by kernel_rfl
theorem sz4:szT Tryz.prog 4=some 1:=by kernel_rfl
theorem yo:szT Tryz.prog 54=some 3:=by kernel_rfl
theorem Ej:szT Tryz.prog 62=some 2:=by kernel_rfl
theorem JQ:szT Tryz.prog 66=some 1:=by kernel_rfl
theorem iZ:szT Tryz.prog 68=some 13:=by kernel_rfl
theorem pg:szT Tryz.prog 80=some 3:=by kernel_rfl
theorem sz9:szT Tryz.prog 9=some 1:=by kernel_rfl
theorem Fh:(Tryz.prog).underlying 122=some (.int .u64):=by kernel_rfl
theorem un149:(Tryz.prog).underlying 149=some (.int .u64):=by kernel_rfl
theorem qc:(Tryz.prog).underlying 22=some (.slice 3):=by kernel_rfl
theorem yB:(Tryz.prog).underlying 26=some (.slice 68):=by kernel_rfl
theorem xI:(Tryz.prog).underlying 28=some (.slice 9):=by kernel_rfl
theorem un3:(Tryz.prog).underlying 3=some (.int .i64):=by kernel_rfl
theorem BZ:(Tryz.prog).underlying 35=some (.slice 54):=by kernel_rfl
theorem El:(Tryz.prog).underlying 41=some (.slice 33):=by kernel_rfl
theorem Mw:(Tryz.prog).underlying 44=some (.slice 62):=by kernel_rfl
theorem un5:(Tryz.prog).underlying 5=some (.int .u8):=by kernel_rfl
theorem Cb:(Tryz.prog).underlying 77=some (.slice 80):=by kernel_rfl
theorem un89:(Tryz.prog).underlying 89=some (.slice 36):=by kernel_rfl
theorem un9:(Tryz.prog).underlying 9=some .string:=by kernel_rfl
theorem z22:zeroCells Tryz.prog 22=some [.nil]:=by kernel_rfl
theorem z3:zeroCells Tryz.prog 3=some [.d (.int .i64 0)]:=by kernel_rfl
theorem z30:zeroCells Tryz.prog 30=some [.d (.str ⟨#[]⟩),.d (.str ⟨#[]⟩),.d (.int .i64 0),.nil]:=by kernel_rfl
theorem z33:zeroCells Tryz.prog 33=some [.d (.int .i64 0),.d (.int .i64 0)]:=by kernel_rfl
theorem z54:zeroCells Tryz.prog 54=some [.d (.int .i64 0),.d (.int .i64 0),.d (.str ⟨#[]⟩)]:=by kernel_rfl
theorem z62:zeroCells Tryz.prog 62=some [.d (.str ⟨#[]⟩),.d (.str ⟨#[]⟩)]:=by kernel_rfl
theorem z68:zeroCells Tryz.prog 68=some [.d (.str ⟨#[]⟩),.d (.str ⟨#[]⟩),.d (.int .i64 0),.d (.int .i64 0),.d (.int .i64 0),.d (.int .i64 0),.d (.int .i64 0),.nil,.d (.int .i64 0),.d (.int .i64 0),.d (.int .i64 0),.nil,.d (.bool false)]:=by kernel_rfl
theorem z80:zeroCells Tryz.prog 80=some [.d .nilp,.d (.int .i64 0),.d (.int .i64 0)]:=by kernel_rfl
theorem z9:zeroCells Tryz.prog 9=some [.d (.str ⟨#[]⟩)]:=by kernel_rfl
theorem Jt : ∀ w, Go.Eng.Ie w → Go.Lib.TabIs Go.Proofs.Tryz.prog w "internal/strconv.uint64pow10" .u64 Go.Lib.pow10Tab := fun _ h => h
end Go.Proofs.YthcdokkcamcnmaaGreatDoor.Law

