/-
  Closed facts on the types and functions of the program.
-/
import Derived.Test.YtigdobmllbakiacGreatDoorProg
import Derived.Test.YtigdobmllbakiacGreatDoorEng5
open Go Go.Eng Go.Proofs
namespace Go.Proofs.YtigdobmllbakiacGreatDoor.Law
set_option maxRecDepth 100000
set_option linter.unusedVariables false
set_option maxHeartbeats 1000000
theorem lb_ {a b:Nat} (h:Nat.ble a b=true):a<=b:=Nat.le_of_ble_eq_true h
abbrev SL_:=List (Nat×V)
theorem ag22:bI Tryz.prog 22=false:=by kernel_rfl
theorem ag26:bI Tryz.prog 26=false:=by kernel_rfl
theorem ag3:bI Tryz.prog 3=false:=by kernel_rfl
theorem ag38:bI Tryz.prog 38=true:=by kernel_rfl
theorem zQ:bI Tryz.prog 39=false:=by kernel_rfl
theorem mD:bI Tryz.prog 41=true:=by kernel_rfl
theorem ag9:bI Tryz.prog 9=false:=by kernel_rfl
theorem by3:bytesT Tryz.prog 3=8:=by kernel_rfl
theorem by41:bytesT Tryz.prog 41=96:=by kernel_rfl
theorem by9:bytesT Tryz.prog 9=16:=by kernel_rfl
theorem el22:elemT Tryz.prog 22=some 3:=by kernel_rfl
theorem zI:elemT Tryz.prog 26=some 41:=by kernel_rfl
theorem DR:elemT Tryz.prog 39=some 9:=by kernel_rfl
theorem je:(elemT Tryz.prog 22).bind (szT Tryz.prog)=some 1:=by kernel_rfl
theorem sF:(elemT Tryz.prog 26).bind (szT Tryz.prog)=some 8:=by kernel_rfl
theorem fV:(elemT Tryz.prog 39).bind (szT Tryz.prog)=some 1:=by kernel_rfl
theorem es50:(elemT Tryz.prog 50).bind (szT Tryz.prog)=some 1:=by kernel_rfl
theorem pJ:((elemT Tryz.prog 22).bind (zeroCells Tryz.prog)).isSome=true:=by kernel_rfl
theorem Eb:((elemT Tryz.prog 26).bind (zeroCells Tryz.prog)).isSome=true:=by kernel_rfl
theorem qm:((elemT Tryz.prog 39).bind (zeroCells Tryz.prog)).isSome=true:=by kernel_rfl
theorem ez50:((elemT Tryz.prog 50).bind (zeroCells Tryz.prog)).isSome=true:=by kernel_rfl
theorem hb10:aC Tryz.prog 10=true:=by kernel_rfl
theorem hb11:aC Tryz.prog 11=true:=by kernel_rfl
theorem hb12:aC Tryz.prog 12=true:=by kernel_rfl
theorem hb13:aC Tryz.prog 13=true:=by kernel_rfl
theorem hb14:aC Tryz.prog 14=true:=by kernel_rfl
theorem Dw:aC Tryz.prog 15=true:=by kernel_rfl
theorem xC:aC Tryz.prog 16=true:=by kernel_rfl
theorem hb17:aC Tryz.prog 17=true:=by kernel_rfl
theorem hb18:aC Tryz.prog 18=true:=by kernel_rfl
theorem uD:aC Tryz.prog 19=true:=by kernel_rfl
theorem hb20:aC Tryz.prog 20=true:=by kernel_rfl
theorem hb21:aC Tryz.prog 21=true:=by kernel_rfl
theorem hb22:aC Tryz.prog 22=true:=by kernel_rfl
theorem hb23:aC Tryz.prog 23=true:=by kernel_rfl
theorem hb24:aC Tryz.prog 24=true:=by kernel_rfl
theorem hb25:aC Tryz.prog 25=true:=by kernel_rfl
theorem hb26:aC Tryz.prog 26=true:=by kernel_rfl
theorem hb27:aC Tryz.prog 27=true:=by kernel_rfl
theorem hb28:aC Tryz.prog 28=true:=by kernel_rfl
theorem hb29:aC Tryz.prog 29=true:=by kernel_rfl
theorem hb30:aC Tryz.prog 30=true:=by kernel_rfl
theorem hb31:aC Tryz.prog 31=true:=by kernel_rfl
theorem hb32:aC Tryz.prog 32=true:=by kernel_rfl
theorem hb33:aC Tryz.prog 33=true:=by kernel_rfl
theorem hb34:aC Tryz.prog 34=true:=by kernel_rfl
theorem hb35:aC Tryz.prog 35=true:=by kernel_rfl
theorem hb36:aC Tryz.prog 36=true:=by kernel_rfl
theorem hb37:aC Tryz.prog 37=true:=by kernel_rfl
theorem hb38:aC Tryz.prog 38=true:=by kernel_rfl
theorem hb39:aC Tryz.prog 39=true:=by kernel_rfl
theorem hb4:aC Tryz.prog 4=true:=by kernel_rfl
theorem hb40:aC Tryz.prog 40=true:=by kernel_rfl
theorem hb41:aC Tryz.prog 41=true:=by kernel_rfl
theorem hb42:aC Tryz.prog 42=true:=by kernel_rfl
theorem Ej:aC Tryz.prog 43=true:=by kernel_rfl
theorem hb44:aC Tryz.prog 44=true:=by kernel_rfl
theorem hb48:aC Tryz.prog 48=true:=by kernel_rfl
theorem hb49:aC Tryz.prog 49=true:=by kernel_rfl
theorem hb5:aC Tryz.prog 5=true:=by kernel_rfl
theorem hb50:aC Tryz.prog 50=true:=by kernel_rfl
theorem hb51:aC Tryz.prog 51=true:=by kernel_rfl
theorem Fs:aC Tryz.prog 52=true:=by kernel_rfl
theorem hb53:aC Tryz.prog 53=true:=by kernel_rfl
theorem hb54:aC Tryz.prog 54=true:=by kernel_rfl
theorem hb55:aC Tryz.prog 55=true:=by kernel_rfl
theorem hb56:aC Tryz.prog 56=true:=by kernel_rfl
theorem hb57:aC Tryz.prog 57=true:=by kernel_rfl
theorem hb58:aC Tryz.prog 58=true:=by kernel_rfl
theorem hb59:aC Tryz.prog 59=true:=by kernel_rfl
theorem hb6:aC Tryz.prog 6=true:=by kernel_rfl
theorem hb60:aC Tryz.prog 60=true:=by kernel_rfl
theorem hb64:aC Tryz.prog 64=true:=by kernel_rfl
theorem hb66:aC Tryz.prog 66=true:=by kernel_rfl
theorem hb67:aC Tryz.prog 67=true:=by kernel_rfl
theorem hb68:aC Tryz.prog 68=true:=by kernel_rfl
theorem hb69:aC Tryz.prog 69=true:=by kernel_rfl
theorem hb7:aC Tryz.prog 7=true:=by kernel_rfl
theorem hb75:aC Tryz.prog 75=true:=by kernel_rfl
theorem hb79:aC Tryz.prog 79=true:=by kernel_rfl
theorem hb8:aC Tryz.prog 8=true:=by kernel_rfl
theorem hb82:aC Tryz.prog 82=true:=by kernel_rfl
theorem hb9:aC Tryz.prog 9=true:=by kernel_rfl
theorem hb92:aC Tryz.prog 92=true:=by kernel_rfl
theorem if58:CJ Tryz.prog 58=true:=by kernel_rfl
theorem nb88:aC Tryz.prog 88=false:=by kernel_rfl
theorem zu:fK Tryz.prog 25 0=some (0,1):=by kernel_rfl
theorem ww:fK Tryz.prog 25 1=some (1,1):=by kernel_rfl
theorem mV:fK Tryz.prog 38 0=some (0,1):=by kernel_rfl
theorem nu:fK Tryz.prog 38 1=some (1,1):=by kernel_rfl
theorem mf:fK Tryz.prog 41 0=some (0,1):=by kernel_rfl
theorem oJ:fK Tryz.prog 41 1=some (1,1):=by kernel_rfl
theorem iW:fK Tryz.prog 41 2=some (2,2):=by kernel_rfl
theorem kX:fK Tryz.prog 41 3=some (4,1):=by kernel_rfl
theorem qj:fK Tryz.prog 41 4=some (5,1):=by kernel_rfl
theorem wW:fK Tryz.prog 41 5=some (6,1):=by kernel_rfl
theorem uV:fK Tryz.prog 41 6=some (7,1):=by kernel_rfl
theorem sz22:szT Tryz.prog 22=some 1:=by kernel_rfl
theorem sz26:szT Tryz.prog 26=some 1:=by kernel_rfl
theorem sz3:szT Tryz.prog 3=some 1:=by kernel_rfl
theorem sz38:szT Tryz.prog 38=some 2:=by kernel_rfl
theorem uq:szT Tryz.prog 39=some 1:=by kernel_rfl
theorem gD:szT Tryz.prog 41=some 8:=by kernel_rfl
theorem sz9:szT Tryz.prog 9=some 1:=by kernel_rfl
theorem un21:(Tryz.prog).underlying 21=some (.int .i32):=by kernel_rfl
theorem CY:(Tryz.prog).underlying 22=some (.slice 3):=by kernel_rfl
theorem uR:(Tryz.prog).underlying 26=some (.slice 41):=by kernel_rfl
theorem lw:(Tryz.prog).underlying 39=some (.slice 9):=by kernel_rfl
theorem un5:(Tryz.prog).underlying 5=some (.int .u8):=by kernel_rfl
theorem un9:(Tryz.prog).underlying 9=some .string:=by kernel_rfl
theorem z26:zeroCells Tryz.prog 26=some [.nil]:=by kernel_rfl
theorem z3:zeroCells Tryz.prog 3=some [.d (.int .i64 0)]:=by kernel_rfl
theorem z41:zeroCells Tryz.prog 41=some [.d (.str ⟨#[]⟩),.d (.str ⟨#[]⟩),.d (.int .i64 0),.d (.int .i64 0),.nil,.d (.int .i64 0),.d (.int .i64 0),.d (.int .i64 0)]:=by kernel_rfl
theorem z56:zeroCells Tryz.prog 56=some [.d .nilp,.nil]:=by kernel_rfl
theorem z9:zeroCells Tryz.prog 9=some [.d (.str ⟨#[]⟩)]:=by kernel_rfl
theorem Bu : ∀ w, Go.Eng.qU w → Go.Lib.TabIs Go.Proofs.Tryz.prog w "internal/strconv.uint64pow10" .u64 Go.Lib.pow10Tab := fun _ h => h.2.1
theorem tT:∀w,Go.Eng.qU w->(∃m,w.cell? ⟨1,0,none⟩=some (.int .i64 m)):=λ_ h=>h.2.2
end Go.Proofs.YtigdobmllbakiacGreatDoor.Law

