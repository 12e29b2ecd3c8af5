/-
  Closed facts on the types and functions of the program.
-/
import Derived.Test.YtekmkepojbhafaeGreatDoorProg
import Derived.Test.YtekmkepojbhafaeGreatDoorEng5
open Go Go.Eng Go.Proofs
namespace Go.Proofs.YtekmkepojbhafaeGreatDoor.Law
set_option maxRecDepth 100000
set_option linter.unusedVariables false
set_option maxHeartbeats 1000000
theorem Gm:bS Tryz.prog 22=false:=by kernel_rfl
theorem KP:bS Tryz.prog 26=false:=by kernel_rfl
theorem lb_ {a b:Nat} (h:Nat.ble a b=true):a<=b:=Nat.le_of_ble_eq_true h
abbrev SL_:=List (Nat×V)
theorem ag3:bS Tryz.prog 3=false:=by kernel_rfl
theorem tK:bS Tryz.prog 30=false:=by kernel_rfl
theorem ag31:bS Tryz.prog 31=false:=by kernel_rfl
theorem Eo:bS Tryz.prog 49=false:=by kernel_rfl
theorem iW:bS Tryz.prog 51=true:=by kernel_rfl
theorem Cw:bS Tryz.prog 75=true:=by kernel_rfl
theorem ag79:bS Tryz.prog 79=true:=by kernel_rfl
theorem ag9:bS Tryz.prog 9=false:=by kernel_rfl
theorem by22:fJ Tryz.prog 22=24:=by kernel_rfl
theorem by3:fJ Tryz.prog 3=8:=by kernel_rfl
theorem by51:fJ Tryz.prog 51=128:=by kernel_rfl
theorem by75:fJ Tryz.prog 75=32:=by kernel_rfl
theorem by9:fJ Tryz.prog 9=16:=by kernel_rfl
theorem ET:cz Tryz.prog 22=some 3:=by kernel_rfl
theorem el26:cz Tryz.prog 26=some 51:=by kernel_rfl
theorem uE:cz Tryz.prog 30=some 9:=by kernel_rfl
theorem el49:cz Tryz.prog 49=some 75:=by kernel_rfl
theorem el58:cz Tryz.prog 58=some 22:=by kernel_rfl
theorem pK:(cz Tryz.prog 22).bind (szT Tryz.prog)=some 1:=by kernel_rfl
theorem nM:(cz Tryz.prog 26).bind (szT Tryz.prog)=some 9:=by kernel_rfl
theorem iL:(cz Tryz.prog 30).bind (szT Tryz.prog)=some 1:=by kernel_rfl
theorem Iu:(cz Tryz.prog 49).bind (szT Tryz.prog)=some 4:=by kernel_rfl
theorem es54:(cz Tryz.prog 54).bind (szT Tryz.prog)=some 1:=by kernel_rfl
theorem Kl:(cz Tryz.prog 58).bind (szT Tryz.prog)=some 1:=by kernel_rfl
theorem es69:(cz Tryz.prog 69).bind (szT Tryz.prog)=some 1:=by kernel_rfl
theorem es92:(cz Tryz.prog 92).bind (szT Tryz.prog)=some 3:=by kernel_rfl
theorem xw:((cz Tryz.prog 22).bind (zeroCells Tryz.prog)).isSome=true:=by kernel_rfl
theorem ez26:((cz Tryz.prog 26).bind (zeroCells Tryz.prog)).isSome=true:=by kernel_rfl
theorem oM:((cz Tryz.prog 30).bind (zeroCells Tryz.prog)).isSome=true:=by kernel_rfl
theorem ez49:((cz Tryz.prog 49).bind (zeroCells Tryz.prog)).isSome=true:=by kernel_rfl
theorem ez54:((cz Tryz.prog 54).bind (zeroCells Tryz.prog)).isSome=true:=by kernel_rfl
theorem ez69:((cz Tryz.prog 69).bind (zeroCells Tryz.prog)).isSome=true:=by kernel_rfl
theorem ez92:((cz Tryz.prog 92).bind (zeroCells Tryz.prog)).isSome=true:=by kernel_rfl
theorem hb10:aD Tryz.prog 10=true:=by kernel_rfl
theorem hb106:aD Tryz.prog 106=true:=by kernel_rfl
theorem hb11:aD Tryz.prog 11=true:=by kernel_rfl
theorem hb112:aD Tryz.prog 112=true:=by kernel_rfl
theorem hb113:aD Tryz.prog 113=true:=by kernel_rfl
theorem hb116:aD Tryz.prog 116=true:=by kernel_rfl
theorem hb117:aD Tryz.prog 117=true:=by kernel_rfl
theorem hb12:aD Tryz.prog 12=true:=by kernel_rfl
theorem hb125:aD Tryz.prog 125=true:=by kernel_rfl
theorem hb13:aD Tryz.prog 13=true:=by kernel_rfl
theorem hb130:aD Tryz.prog 130=true:=by kernel_rfl
theorem hb14:aD Tryz.prog 14=true:=by kernel_rfl
theorem hb15:aD Tryz.prog 15=true:=by kernel_rfl
theorem hb16:aD Tryz.prog 16=true:=by kernel_rfl
theorem hb17:aD Tryz.prog 17=true:=by kernel_rfl
theorem hb18:aD Tryz.prog 18=true:=by kernel_rfl
theorem hb19:aD Tryz.prog 19=true:=by kernel_rfl
theorem hb20:aD Tryz.prog 20=true:=by kernel_rfl
theorem Ko:aD Tryz.prog 21=true:=by kernel_rfl
theorem DV:aD Tryz.prog 22=true:=by kernel_rfl
theorem F5:aD Tryz.prog 23=true:=by kernel_rfl
theorem hb24:aD Tryz.prog 24=true:=by kernel_rfl
theorem hb25:aD Tryz.prog 25=true:=by kernel_rfl
theorem hb26:aD Tryz.prog 26=true:=by kernel_rfl
theorem hb27:aD Tryz.prog 27=true:=by kernel_rfl
theorem hb28:aD Tryz.prog 28=true:=by kernel_rfl
theorem hb29:aD Tryz.prog 29=true:=by kernel_rfl
theorem hb30:aD Tryz.prog 30=true:=by kernel_rfl
theorem hb31:aD Tryz.prog 31=true:=by kernel_rfl
theorem hb32:aD Tryz.prog 32=true:=by kernel_rfl
theorem hb33:aD Tryz.prog 33=true:=by kernel_rfl
theorem hb34:aD Tryz.prog 34=true:=by kernel_rfl
theorem hb35:aD Tryz.prog 35=true:=by kernel_rfl
theorem hb36:aD Tryz.prog 36=true:=by kernel_rfl
theorem hb37:aD Tryz.prog 37=true:=by kernel_rfl
theorem hb38:aD Tryz.prog 38=true:=by kernel_rfl
theorem hb39:aD Tryz.prog 39=true:=by kernel_rfl
theorem hb4:aD Tryz.prog 4=true:=by kernel_rfl
theorem hb40:aD Tryz.prog 40=true:=by kernel_rfl
theorem hb41:aD Tryz.prog 41=true:=by kernel_rfl
theorem hb42:aD Tryz.prog 42=true:=by kernel_rfl
theorem hb43:aD Tryz.prog 43=true:=by kernel_rfl
theorem hb44:aD Tryz.prog 44=true:=by kernel_rfl
theorem CZ:aD Tryz.prog 45=true:=by kernel_rfl
theorem hb46:aD Tryz.prog 46=true:=by kernel_rfl
theorem hb47:aD Tryz.prog 47=true:=by kernel_rfl
theorem hb48:aD Tryz.prog 48=true:=by kernel_rfl
theorem hb49:aD Tryz.prog 49=true:=by kernel_rfl
theorem hb5:aD Tryz.prog 5=true:=by kernel_rfl
theorem hb50:aD Tryz.prog 50=true:=by kernel_rfl
theorem hb51:aD Tryz.prog 51=true:=by kernel_rfl
theorem hb52:aD Tryz.prog 52=true:=by kernel_rfl
theorem hb53:aD Tryz.prog 53=true:=by kernel_rfl
theorem hb54:aD Tryz.prog 54=true:=by kernel_rfl
theorem hb55:aD Tryz.prog 55=true:=by kernel_rfl
theorem hb56:aD Tryz.prog 56=true:=by kernel_rfl
theorem hb57:aD Tryz.prog 57=true:=by kernel_rfl
theorem hb58:aD Tryz.prog 58=true:=by kernel_rfl
theorem Dq:aD Tryz.prog 59=true:=by kernel_rfl
theorem hb6:aD Tryz.prog 6=true:=by kernel_rfl
theorem hb60:aD Tryz.prog 60=true:=by kernel_rfl
theorem hb61:aD Tryz.prog 61=true:=by kernel_rfl
theorem hb62:aD Tryz.prog 62=true:=by kernel_rfl
theorem hb63:aD Tryz.prog 63=true:=by kernel_rfl
theorem hb64:aD Tryz.prog 64=true:=by kernel_rfl
theorem hb65:aD Tryz.prog 65=true:=by kernel_rfl
theorem hb66:aD Tryz.prog 66=true:=by kernel_rfl
theorem hb67:aD Tryz.prog 67=true:=by kernel_rfl
theorem hb68:aD Tryz.prog 68=true:=by kernel_rfl
theorem hb69:aD Tryz.prog 69=true:=by kernel_rfl
theorem hb7:aD Tryz.prog 7=true:=by kernel_rfl
theorem hb70:aD Tryz.prog 70=true:=by kernel_rfl
theorem Co:aD Tryz.prog 71=true:=by kernel_rfl
theorem hb72:aD Tryz.prog 72=true:=by kernel_rfl
theorem hb73:aD Tryz.prog 73=true:=by kernel_rfl
theorem hb74:aD Tryz.prog 74=true:=by kernel_rfl
theorem hb75:aD Tryz.prog 75=true:=by kernel_rfl
theorem hb76:aD Tryz.prog 76=true:=by kernel_rfl
theorem hb77:aD Tryz.prog 77=true:=by kernel_rfl
theorem hb8:aD Tryz.prog 8=true:=by kernel_rfl
theorem hb83:aD Tryz.prog 83=true:=by kernel_rfl
theorem hb87:aD Tryz.prog 87=true:=by kernel_rfl
theorem hb88:aD Tryz.prog 88=true:=by kernel_rfl
theorem hb89:aD Tryz.prog 89=true:=by kernel_rfl
theorem hb9:aD Tryz.prog 9=true:=by kernel_rfl
theorem hb90:aD Tryz.prog 90=true:=by kernel_rfl
theorem hb91:aD Tryz.prog 91=true:=by kernel_rfl
theorem hb92:aD Tryz.prog 92=true:=by kernel_rfl
theorem hb93:aD Tryz.prog 93=true:=by kernel_rfl
theorem hb94:aD Tryz.prog 94=true:=by kernel_rfl
theorem hb95:aD Tryz.prog 95=true:=by kernel_rfl
theorem hb96:aD Tryz.prog 96=true:=by kernel_rfl
theorem hb97:aD Tryz.prog 97=true:=by kernel_rfl
theorem hb98:aD Tryz.prog 98=true:=by kernel_rfl
theorem mt60:Ad Tryz.prog 60=some (3,4):=by kernel_rfl
theorem mt68:Ad Tryz.prog 68=some (9,4):=by kernel_rfl
theorem nb124:aD Tryz.prog 124=false:=by kernel_rfl
theorem nb138:aD Tryz.prog 138=false:=by kernel_rfl
theorem Dj:fH Tryz.prog 25 0=some (0,1):=by kernel_rfl
theorem zw:fH Tryz.prog 25 1=some (1,1):=by kernel_rfl
theorem fw:fH Tryz.prog 51 0=some (0,1):=by kernel_rfl
theorem vz:fH Tryz.prog 51 1=some (1,1):=by kernel_rfl
theorem nQ:fH Tryz.prog 51 2=some (2,1):=by kernel_rfl
theorem jl:fH Tryz.prog 51 3=some (3,1):=by kernel_rfl
theorem iw:fH Tryz.prog 51 4=some (4,1):=by kernel_rfl
theorem xm:fH Tryz.prog 51 5=some (5,1):=by kernel_rfl
theorem FZ:fH Tryz.prog 51 6=some (6,1):=by kernel_rfl
theorem qd:fH Tryz.prog 51 7=some (7,1):=by kernel_rfl
theorem sM:fH Tryz.prog 51 8=some (8,1):=by kernel_rfl
theorem uX:fH Tryz.prog 75 0=some (0,1):=by kernel_rfl
theorem ve:fH Tryz.prog 75 1=some (1,1):=by kernel_rfl
theorem CK:fH Tryz.prog 75 2=some (2,1):=by kernel_rfl
theorem AC:fH Tryz.prog 75 3=some (3,1):=by kernel_rfl
theorem Gv:fH Tryz.prog 79 0=some (0,1):=by kernel_rfl
theorem FY:fH Tryz.prog 79 1=some (1,1):=by kernel_rfl
theorem FJ:fH Tryz.prog 79 2=some (2,1):=by kernel_rfl
theorem Bj:szT Tryz.prog 22=some 1:=by kernel_rfl
theorem KX:szT Tryz.prog 26=some 1:=by kernel_rfl
theorem sz3:szT Tryz.prog 3=some 1:=by kernel_rfl
theorem qG:szT Tryz.prog 30=some 1:=by kernel_rfl
theorem sz31:szT Tryz.prog 31=some 1:=by kernel_rfl
theorem AR:szT Tryz.prog 49=some 1:=by kernel_rfl
theorem fo:szT Tryz.prog 51=some 9:=by kernel_rfl
theorem sI:szT Tryz.prog 75=some 4:=by kernel_rfl
theorem sz79:szT Tryz.prog 79=some 3:=by kernel_rfl
theorem sz9:szT Tryz.prog 9=some 1:=by kernel_rfl
theorem un107:(Tryz.prog).underlying 107=some (.int .u64):=by kernel_rfl
theorem EK:(Tryz.prog).underlying 22=some (.slice 3):=by kernel_rfl
theorem qi:(Tryz.prog).underlying 26=some (.slice 51):=by kernel_rfl
theorem un3:(Tryz.prog).underlying 3=some (.int .i64):=by kernel_rfl
theorem pG:(Tryz.prog).underlying 30=some (.slice 9):=by kernel_rfl
theorem un4:(Tryz.prog).underlying 4=some .bool:=by kernel_rfl
theorem GX:(Tryz.prog).underlying 49=some (.slice 75):=by kernel_rfl
theorem un5:(Tryz.prog).underlying 5=some (.int .u8):=by kernel_rfl
theorem un69:(Tryz.prog).underlying 69=some (.slice 31):=by kernel_rfl
theorem un84:(Tryz.prog).underlying 84=some (.int .u64):=by kernel_rfl
theorem un9:(Tryz.prog).underlying 9=some .string:=by kernel_rfl
theorem un92:(Tryz.prog).underlying 92=some (.slice 79):=by kernel_rfl
theorem z22:zeroCells Tryz.prog 22=some [.nil]:=by kernel_rfl
theorem z3:zeroCells Tryz.prog 3=some [.d (.int .i64 0)]:=by kernel_rfl
theorem z51:zeroCells Tryz.prog 51=some [.d (.str ⟨#[]⟩),.d (.str ⟨#[]⟩),.d (.int .i64 0),.nil,.d (.int .i64 0),.d (.int .i64 0),.d (.int .i64 0),.nil,.d (.str ⟨#[]⟩)]:=by kernel_rfl
theorem z75:zeroCells Tryz.prog 75=some [.d (.int .i64 0),.d (.int .i64 0),.d (.int .i64 0),.d (.int .i64 0)]:=by kernel_rfl
theorem z79:zeroCells Tryz.prog 79=some [.d (.str ⟨#[]⟩),.d (.int .i64 0),.d (.int .i64 0)]:=by kernel_rfl
theorem z9:zeroCells Tryz.prog 9=some [.d (.str ⟨#[]⟩)]:=by kernel_rfl
theorem Eg:∀w,Go.Eng.AO w->(∃m,w.cell? ⟨2,0,none⟩=some (.int .i64 m)):=λ_ h=>h.1
theorem Jm:∀w,Go.Eng.AO w->Go.Lib.Utf8Tabs 0 1 w:=λ_ h=>h.2
end Go.Proofs.YtekmkepojbhafaeGreatDoor.Law

