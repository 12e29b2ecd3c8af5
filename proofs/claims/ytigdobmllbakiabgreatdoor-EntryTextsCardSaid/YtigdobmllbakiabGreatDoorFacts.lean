/-
  Closed facts on the types and functions of the program.
-/
import Derived.Test.YtigdobmllbakiabGreatDoorProg
import Derived.Test.YtigdobmllbakiabGreatDoorEng5
open Go Go.Eng Go.Proofs
namespace Go.Proofs.YtigdobmllbakiabGreatDoor.Law
set_option maxRecDepth 100000
set_option linter.unusedVariables false
set_option maxHeartbeats 1000000
theorem rV:cB Tryz.prog 22=false:=by kernel_rfl
theorem lb_ {a b:Nat} (h:Nat.ble a b=true):a<=b:=Nat.le_of_ble_eq_true h
abbrev SL_:=List (Nat×V)
theorem ag26:cB Tryz.prog 26=false:=by kernel_rfl
theorem ag3:cB Tryz.prog 3=false:=by kernel_rfl
theorem Bd:cB Tryz.prog 37=false:=by kernel_rfl
theorem lN:cB Tryz.prog 39=true:=by kernel_rfl
theorem ag4:cB Tryz.prog 4=false:=by kernel_rfl
theorem Dw:cB Tryz.prog 79=true:=by kernel_rfl
theorem ag9:cB Tryz.prog 9=false:=by kernel_rfl
theorem by3:bytesT Tryz.prog 3=8:=by kernel_rfl
theorem by39:bytesT Tryz.prog 39=152:=by kernel_rfl
theorem by79:bytesT Tryz.prog 79=16:=by kernel_rfl
theorem by9:bytesT Tryz.prog 9=16:=by kernel_rfl
theorem xw:elemT Tryz.prog 22=some 3:=by kernel_rfl
theorem BU:elemT Tryz.prog 26=some 39:=by kernel_rfl
theorem tY:elemT Tryz.prog 37=some 9:=by kernel_rfl
theorem el75:elemT Tryz.prog 75=some 79:=by kernel_rfl
theorem eX:(elemT Tryz.prog 22).bind (szT Tryz.prog)=some 1:=by kernel_rfl
theorem vF:(elemT Tryz.prog 26).bind (szT Tryz.prog)=some 13:=by kernel_rfl
theorem fF:(elemT Tryz.prog 37).bind (szT Tryz.prog)=some 1:=by kernel_rfl
theorem es49:(elemT Tryz.prog 49).bind (szT Tryz.prog)=some 1:=by kernel_rfl
theorem es75:(elemT Tryz.prog 75).bind (szT Tryz.prog)=some 2:=by kernel_rfl
theorem lq:((elemT Tryz.prog 22).bind (zeroCells Tryz.prog)).isSome=true:=by kernel_rfl
theorem G7:((elemT Tryz.prog 26).bind (zeroCells Tryz.prog)).isSome=true:=by kernel_rfl
theorem nK:((elemT Tryz.prog 37).bind (zeroCells Tryz.prog)).isSome=true:=by kernel_rfl
theorem ez49:((elemT Tryz.prog 49).bind (zeroCells Tryz.prog)).isSome=true:=by kernel_rfl
theorem ez75:((elemT Tryz.prog 75).bind (zeroCells Tryz.prog)).isSome=true:=by kernel_rfl
theorem hb10:aH Tryz.prog 10=true:=by kernel_rfl
theorem hb101:aH Tryz.prog 101=true:=by kernel_rfl
theorem hb108:aH Tryz.prog 108=true:=by kernel_rfl
theorem hb11:aH Tryz.prog 11=true:=by kernel_rfl
theorem hb114:aH Tryz.prog 114=true:=by kernel_rfl
theorem hb115:aH Tryz.prog 115=true:=by kernel_rfl
theorem hb12:aH Tryz.prog 12=true:=by kernel_rfl
theorem hb124:aH Tryz.prog 124=true:=by kernel_rfl
theorem hb13:aH Tryz.prog 13=true:=by kernel_rfl
theorem hb14:aH Tryz.prog 14=true:=by kernel_rfl
theorem yu:aH Tryz.prog 15=true:=by kernel_rfl
theorem zS:aH Tryz.prog 16=true:=by kernel_rfl
theorem FH:aH Tryz.prog 17=true:=by kernel_rfl
theorem Ci:aH Tryz.prog 18=true:=by kernel_rfl
theorem hb19:aH Tryz.prog 19=true:=by kernel_rfl
theorem rT:aH Tryz.prog 20=true:=by kernel_rfl
theorem hb21:aH Tryz.prog 21=true:=by kernel_rfl
theorem hb22:aH Tryz.prog 22=true:=by kernel_rfl
theorem hb23:aH Tryz.prog 23=true:=by kernel_rfl
theorem hb24:aH Tryz.prog 24=true:=by kernel_rfl
theorem hb25:aH Tryz.prog 25=true:=by kernel_rfl
theorem hb26:aH Tryz.prog 26=true:=by kernel_rfl
theorem hb27:aH Tryz.prog 27=true:=by kernel_rfl
theorem hb28:aH Tryz.prog 28=true:=by kernel_rfl
theorem hb29:aH Tryz.prog 29=true:=by kernel_rfl
theorem hb30:aH Tryz.prog 30=true:=by kernel_rfl
theorem hb31:aH Tryz.prog 31=true:=by kernel_rfl
theorem hb32:aH Tryz.prog 32=true:=by kernel_rfl
theorem hb33:aH Tryz.prog 33=true:=by kernel_rfl
theorem hb34:aH Tryz.prog 34=true:=by kernel_rfl
theorem hb35:aH Tryz.prog 35=true:=by kernel_rfl
theorem hb36:aH Tryz.prog 36=true:=by kernel_rfl
theorem hb37:aH Tryz.prog 37=true:=by kernel_rfl
theorem hb38:aH Tryz.prog 38=true:=by kernel_rfl
theorem hb39:aH Tryz.prog 39=true:=by kernel_rfl
theorem hb4:aH Tryz.prog 4=true:=by kernel_rfl
theorem hb40:aH Tryz.prog 40=true:=by kernel_rfl
theorem hb41:aH Tryz.prog 41=true:=by kernel_rfl
theorem hb46:aH Tryz.prog 46=true:=by kernel_rfl
theorem hb48:aH Tryz.prog 48=true:=by kernel_rfl
theorem Iu:aH Tryz.prog 49=true:=by kernel_rfl
theorem hb5:aH Tryz.prog 5=true:=by kernel_rfl
theorem hb50:aH Tryz.prog 50=true:=by kernel_rfl
theorem hb51:aH Tryz.prog 51=true:=by kernel_rfl
theorem Bq:aH Tryz.prog 52=true:=by kernel_rfl
theorem hb53:aH Tryz.prog 53=true:=by kernel_rfl
theorem hb54:aH Tryz.prog 54=true:=by kernel_rfl
theorem hb55:aH Tryz.prog 55=true:=by kernel_rfl
theorem IM:aH Tryz.prog 56=true:=by kernel_rfl
theorem hb57:aH Tryz.prog 57=true:=by kernel_rfl
theorem hb58:aH Tryz.prog 58=true:=by kernel_rfl
theorem hb59:aH Tryz.prog 59=true:=by kernel_rfl
theorem hb6:aH Tryz.prog 6=true:=by kernel_rfl
theorem hb60:aH Tryz.prog 60=true:=by kernel_rfl
theorem hb61:aH Tryz.prog 61=true:=by kernel_rfl
theorem hb62:aH Tryz.prog 62=true:=by kernel_rfl
theorem zI:aH Tryz.prog 63=true:=by kernel_rfl
theorem hb64:aH Tryz.prog 64=true:=by kernel_rfl
theorem hb65:aH Tryz.prog 65=true:=by kernel_rfl
theorem hb66:aH Tryz.prog 66=true:=by kernel_rfl
theorem hb7:aH Tryz.prog 7=true:=by kernel_rfl
theorem hb70:aH Tryz.prog 70=true:=by kernel_rfl
theorem hb72:aH Tryz.prog 72=true:=by kernel_rfl
theorem hb73:aH Tryz.prog 73=true:=by kernel_rfl
theorem hb74:aH Tryz.prog 74=true:=by kernel_rfl
theorem hb77:aH Tryz.prog 77=true:=by kernel_rfl
theorem hb78:aH Tryz.prog 78=true:=by kernel_rfl
theorem hb8:aH Tryz.prog 8=true:=by kernel_rfl
theorem hb80:aH Tryz.prog 80=true:=by kernel_rfl
theorem hb81:aH Tryz.prog 81=true:=by kernel_rfl
theorem hb82:aH Tryz.prog 82=true:=by kernel_rfl
theorem hb83:aH Tryz.prog 83=true:=by kernel_rfl
theorem hb84:aH Tryz.prog 84=true:=by kernel_rfl
theorem hb85:aH Tryz.prog 85=true:=by kernel_rfl
theorem hb86:aH Tryz.prog 86=true:=by kernel_rfl
theorem hb88:aH Tryz.prog 88=true:=by kernel_rfl
theorem hb9:aH Tryz.prog 9=true:=by kernel_rfl
theorem hb92:aH Tryz.prog 92=true:=by kernel_rfl
theorem hb93:aH Tryz.prog 93=true:=by kernel_rfl
theorem hb95:aH Tryz.prog 95=true:=by kernel_rfl
theorem hb97:aH Tryz.prog 97=true:=by kernel_rfl
theorem hb98:aH Tryz.prog 98=true:=by kernel_rfl
theorem if58:EM Tryz.prog 58=true:=by kernel_rfl
theorem nb102:aH Tryz.prog 102=false:=by kernel_rfl
theorem BD:fB Tryz.prog 25 0=some (0,1):=by kernel_rfl
theorem yA:fB Tryz.prog 25 1=some (1,1):=by kernel_rfl
theorem nX:fB Tryz.prog 39 0=some (0,1):=by kernel_rfl
theorem yU:fB Tryz.prog 39 1=some (1,1):=by kernel_rfl
theorem uV:fB Tryz.prog 39 10=some (10,1):=by kernel_rfl
theorem jG:fB Tryz.prog 39 11=some (11,1):=by kernel_rfl
theorem AA:fB Tryz.prog 39 12=some (12,1):=by kernel_rfl
theorem BQ:fB Tryz.prog 39 2=some (2,1):=by kernel_rfl
theorem ou:fB Tryz.prog 39 3=some (3,1):=by kernel_rfl
theorem nH:fB Tryz.prog 39 4=some (4,1):=by kernel_rfl
theorem vN:fB Tryz.prog 39 5=some (5,1):=by kernel_rfl
theorem ww:fB Tryz.prog 39 6=some (6,1):=by kernel_rfl
theorem jv:fB Tryz.prog 39 7=some (7,1):=by kernel_rfl
theorem sM:fB Tryz.prog 39 8=some (8,1):=by kernel_rfl
theorem vM:fB Tryz.prog 39 9=some (9,1):=by kernel_rfl
theorem pR:fB Tryz.prog 79 0=some (0,1):=by kernel_rfl
theorem pz:fB Tryz.prog 79 1=some (1,1):=by kernel_rfl
theorem nY:szT Tryz.prog 22=some 1:=by kernel_rfl
theorem sz26:szT Tryz.prog 26=some 1:=by kernel_rfl
theorem sz3:szT Tryz.prog 3=some 1:=by kernel_rfl
theorem uD:szT Tryz.prog 37=some 1:=by kernel_rfl
theorem iw:szT Tryz.prog 39=some 13:=by kernel_rfl
theorem sz4:szT Tryz.prog 4=some 1:=by kernel_rfl
theorem uS:szT Tryz.prog 79=some 2:=by kernel_rfl
theorem sz9:szT Tryz.prog 9=some 1:=by kernel_rfl
theorem un112:(Tryz.prog).underlying 112=some (.int .u64):=by kernel_rfl
theorem un21:(Tryz.prog).underlying 21=some (.int .i32):=by kernel_rfl
theorem pE:(Tryz.prog).underlying 22=some (.slice 3):=by kernel_rfl
theorem yf:(Tryz.prog).underlying 26=some (.slice 39):=by kernel_rfl
theorem un3:(Tryz.prog).underlying 3=some (.int .i64):=by kernel_rfl
theorem lS:(Tryz.prog).underlying 37=some (.slice 9):=by kernel_rfl
theorem un5:(Tryz.prog).underlying 5=some (.int .u8):=by kernel_rfl
theorem un75:(Tryz.prog).underlying 75=some (.slice 79):=by kernel_rfl
theorem un9:(Tryz.prog).underlying 9=some .string:=by kernel_rfl
theorem z26:zeroCells Tryz.prog 26=some [.nil]:=by kernel_rfl
theorem z3:zeroCells Tryz.prog 3=some [.d (.int .i64 0)]:=by kernel_rfl
theorem z39:zeroCells Tryz.prog 39=some [.d (.str ⟨#[]⟩),.d (.str ⟨#[]⟩),.d (.int .i64 0),.d (.int .i64 0),.d (.int .i64 0),.d (.int .i64 0),.d (.int .i64 0),.nil,.d (.int .i64 0),.d (.int .i64 0),.d (.int .i64 0),.nil,.d (.bool false)]:=by kernel_rfl
theorem z56:zeroCells Tryz.prog 56=some [.d .nilp,.nil]:=by kernel_rfl
theorem z79:zeroCells Tryz.prog 79=some [.d (.int .i64 0),.d (.int .i64 0)]:=by kernel_rfl
theorem z9:zeroCells Tryz.prog 9=some [.d (.str ⟨#[]⟩)]:=by kernel_rfl
theorem Ey : ∀ w, Go.Eng.uw w → Go.Lib.TabIs Go.Proofs.Tryz.prog w "internal/strconv.uint64pow10" .u64 Go.Lib.pow10Tab := fun _ h => h.2.1
theorem xk:∀w,Go.Eng.uw w->(∃m,w.cell? ⟨0,0,none⟩=some (.int .i64 m)):=λ_ h=>h.2.2
end Go.Proofs.YtigdobmllbakiabGreatDoor.Law

