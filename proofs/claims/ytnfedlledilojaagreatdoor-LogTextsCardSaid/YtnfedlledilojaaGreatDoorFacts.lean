/-
  Closed facts on the types and functions of the program.
-/
import Derived.Test.YtnfedlledilojaaGreatDoorProg
import Derived.Test.YtnfedlledilojaaGreatDoorEng5
open Go Go.Eng Go.Proofs
namespace Go.Proofs.YtnfedlledilojaaGreatDoor.Law
set_option maxRecDepth 100000
set_option linter.unusedVariables false
set_option maxHeartbeats 1000000
theorem lb_ {a b:Nat} (h:Nat.ble a b=true):a<=b:=Nat.le_of_ble_eq_true h
abbrev SL_:=List (Nat×V)
theorem ag113:bC Tryz.prog 113=true:=by kernel_rfl
theorem ag22:bC Tryz.prog 22=false:=by kernel_rfl
theorem ag26:bC Tryz.prog 26=false:=by kernel_rfl
theorem ag3:bC Tryz.prog 3=false:=by kernel_rfl
theorem lN:bC Tryz.prog 38=true:=by kernel_rfl
theorem ag5:bC Tryz.prog 5=false:=by kernel_rfl
theorem ag74:bC Tryz.prog 74=true:=by kernel_rfl
theorem ag9:bC Tryz.prog 9=false:=by kernel_rfl
theorem by113:bytesT Tryz.prog 113=16:=by kernel_rfl
theorem by3:bytesT Tryz.prog 3=8:=by kernel_rfl
theorem by38:bytesT Tryz.prog 38=72:=by kernel_rfl
theorem by9:bytesT Tryz.prog 9=16:=by kernel_rfl
theorem el22:elemT Tryz.prog 22=some 3:=by kernel_rfl
theorem A7:elemT Tryz.prog 26=some 38:=by kernel_rfl
theorem el62:elemT Tryz.prog 62=some 9:=by kernel_rfl
theorem el98:elemT Tryz.prog 98=some 113:=by kernel_rfl
theorem nK:(elemT Tryz.prog 22).bind (szT Tryz.prog)=some 1:=by kernel_rfl
theorem rE:(elemT Tryz.prog 26).bind (szT Tryz.prog)=some 6:=by kernel_rfl
theorem es50:(elemT Tryz.prog 50).bind (szT Tryz.prog)=some 1:=by kernel_rfl
theorem jR:(elemT Tryz.prog 62).bind (szT Tryz.prog)=some 1:=by kernel_rfl
theorem Dv:(elemT Tryz.prog 75).bind (szT Tryz.prog)=some 3:=by kernel_rfl
theorem yR:(elemT Tryz.prog 98).bind (szT Tryz.prog)=some 2:=by kernel_rfl
theorem uJ:((elemT Tryz.prog 22).bind (zeroCells Tryz.prog)).isSome=true:=by kernel_rfl
theorem ez26:((elemT Tryz.prog 26).bind (zeroCells Tryz.prog)).isSome=true:=by kernel_rfl
theorem xD:((elemT Tryz.prog 62).bind (zeroCells Tryz.prog)).isSome=true:=by kernel_rfl
theorem ez75:((elemT Tryz.prog 75).bind (zeroCells Tryz.prog)).isSome=true:=by kernel_rfl
theorem ez98:((elemT Tryz.prog 98).bind (zeroCells Tryz.prog)).isSome=true:=by kernel_rfl
theorem hb10:aB Tryz.prog 10=true:=by kernel_rfl
theorem hb11:aB Tryz.prog 11=true:=by kernel_rfl
theorem hb110:aB Tryz.prog 110=true:=by kernel_rfl
theorem hb12:aB Tryz.prog 12=true:=by kernel_rfl
theorem hb13:aB Tryz.prog 13=true:=by kernel_rfl
theorem FP:aB Tryz.prog 14=true:=by kernel_rfl
theorem xI:aB Tryz.prog 15=true:=by kernel_rfl
theorem BR:aB Tryz.prog 16=true:=by kernel_rfl
theorem hb17:aB Tryz.prog 17=true:=by kernel_rfl
theorem hb18:aB Tryz.prog 18=true:=by kernel_rfl
theorem zY:aB Tryz.prog 19=true:=by kernel_rfl
theorem hb20:aB Tryz.prog 20=true:=by kernel_rfl
theorem hb21:aB Tryz.prog 21=true:=by kernel_rfl
theorem hb22:aB Tryz.prog 22=true:=by kernel_rfl
theorem hb23:aB Tryz.prog 23=true:=by kernel_rfl
theorem hb24:aB Tryz.prog 24=true:=by kernel_rfl
theorem hb25:aB Tryz.prog 25=true:=by kernel_rfl
theorem hb26:aB Tryz.prog 26=true:=by kernel_rfl
theorem hb27:aB Tryz.prog 27=true:=by kernel_rfl
theorem hb28:aB Tryz.prog 28=true:=by kernel_rfl
theorem hb29:aB Tryz.prog 29=true:=by kernel_rfl
theorem hb30:aB Tryz.prog 30=true:=by kernel_rfl
theorem hb31:aB Tryz.prog 31=true:=by kernel_rfl
theorem hb32:aB Tryz.prog 32=true:=by kernel_rfl
theorem hb33:aB Tryz.prog 33=true:=by kernel_rfl
theorem hb34:aB Tryz.prog 34=true:=by kernel_rfl
theorem hb35:aB Tryz.prog 35=true:=by kernel_rfl
theorem hb36:aB Tryz.prog 36=true:=by kernel_rfl
theorem hb37:aB Tryz.prog 37=true:=by kernel_rfl
theorem hb38:aB Tryz.prog 38=true:=by kernel_rfl
theorem hb39:aB Tryz.prog 39=true:=by kernel_rfl
theorem hb4:aB Tryz.prog 4=true:=by kernel_rfl
theorem hb40:aB Tryz.prog 40=true:=by kernel_rfl
theorem hb41:aB Tryz.prog 41=true:=by kernel_rfl
theorem hb42:aB Tryz.prog 42=true:=by kernel_rfl
theorem FZ:aB Tryz.prog 44=true:=by kernel_rfl
theorem hb45:aB Tryz.prog 45=true:=by kernel_rfl
theorem hb46:aB Tryz.prog 46=true:=by kernel_rfl
theorem hb47:aB Tryz.prog 47=true:=by kernel_rfl
theorem hb48:aB Tryz.prog 48=true:=by kernel_rfl
theorem hb49:aB Tryz.prog 49=true:=by kernel_rfl
theorem hb5:aB Tryz.prog 5=true:=by kernel_rfl
theorem hb50:aB Tryz.prog 50=true:=by kernel_rfl
theorem hb51:aB Tryz.prog 51=true:=by kernel_rfl
theorem hb52:aB Tryz.prog 52=true:=by kernel_rfl
theorem hb53:aB Tryz.prog 53=true:=by kernel_rfl
theorem hb54:aB Tryz.prog 54=true:=by kernel_rfl
theorem hb55:aB Tryz.prog 55=true:=by kernel_rfl
theorem hb56:aB Tryz.prog 56=true:=by kernel_rfl
theorem hb57:aB Tryz.prog 57=true:=by kernel_rfl
theorem hb58:aB Tryz.prog 58=true:=by kernel_rfl
theorem hb59:aB Tryz.prog 59=true:=by kernel_rfl
theorem hb6:aB Tryz.prog 6=true:=by kernel_rfl
theorem hb60:aB Tryz.prog 60=true:=by kernel_rfl
theorem hb61:aB Tryz.prog 61=true:=by kernel_rfl
theorem hb62:aB Tryz.prog 62=true:=by kernel_rfl
theorem hb63:aB Tryz.prog 63=true:=by kernel_rfl
theorem hb66:aB Tryz.prog 66=true:=by kernel_rfl
theorem hb67:aB Tryz.prog 67=true:=by kernel_rfl
theorem hb68:aB Tryz.prog 68=true:=by kernel_rfl
theorem hb7:aB Tryz.prog 7=true:=by kernel_rfl
theorem hb70:aB Tryz.prog 70=true:=by kernel_rfl
theorem hb71:aB Tryz.prog 71=true:=by kernel_rfl
theorem hb72:aB Tryz.prog 72=true:=by kernel_rfl
theorem hb73:aB Tryz.prog 73=true:=by kernel_rfl
theorem hb74:aB Tryz.prog 74=true:=by kernel_rfl
theorem FY:aB Tryz.prog 75=true:=by kernel_rfl
theorem hb76:aB Tryz.prog 76=true:=by kernel_rfl
theorem hb77:aB Tryz.prog 77=true:=by kernel_rfl
theorem hb8:aB Tryz.prog 8=true:=by kernel_rfl
theorem hb85:aB Tryz.prog 85=true:=by kernel_rfl
theorem hb87:aB Tryz.prog 87=true:=by kernel_rfl
theorem hb9:aB Tryz.prog 9=true:=by kernel_rfl
theorem hb93:aB Tryz.prog 93=true:=by kernel_rfl
theorem hb96:aB Tryz.prog 96=true:=by kernel_rfl
theorem hb97:aB Tryz.prog 97=true:=by kernel_rfl
theorem if54:Da Tryz.prog 54=true:=by kernel_rfl
theorem nb106:aB Tryz.prog 106=false:=by kernel_rfl
theorem nb88:aB Tryz.prog 88=false:=by kernel_rfl
theorem lV:eH Tryz.prog 113 0=some (0,1):=by kernel_rfl
theorem ng:eH Tryz.prog 113 1=some (1,1):=by kernel_rfl
theorem yT:eH Tryz.prog 25 0=some (0,1):=by kernel_rfl
theorem wF:eH Tryz.prog 25 1=some (1,1):=by kernel_rfl
theorem kv:eH Tryz.prog 38 0=some (0,1):=by kernel_rfl
theorem sO:eH Tryz.prog 38 1=some (1,1):=by kernel_rfl
theorem nP:eH Tryz.prog 38 2=some (2,1):=by kernel_rfl
theorem xq:eH Tryz.prog 38 3=some (3,1):=by kernel_rfl
theorem wm:eH Tryz.prog 38 4=some (4,1):=by kernel_rfl
theorem kV:eH Tryz.prog 38 5=some (5,1):=by kernel_rfl
theorem rP:eH Tryz.prog 74 0=some (0,1):=by kernel_rfl
theorem vk:eH Tryz.prog 74 1=some (1,1):=by kernel_rfl
theorem xh:eH Tryz.prog 74 2=some (2,1):=by kernel_rfl
theorem yo:szT Tryz.prog 113=some 2:=by kernel_rfl
theorem sz22:szT Tryz.prog 22=some 1:=by kernel_rfl
theorem sz26:szT Tryz.prog 26=some 1:=by kernel_rfl
theorem sz3:szT Tryz.prog 3=some 1:=by kernel_rfl
theorem gz:szT Tryz.prog 38=some 6:=by kernel_rfl
theorem sz5:szT Tryz.prog 5=some 1:=by kernel_rfl
theorem DT:szT Tryz.prog 74=some 3:=by kernel_rfl
theorem sz9:szT Tryz.prog 9=some 1:=by kernel_rfl
theorem un21:(Tryz.prog).underlying 21=some (.int .i32):=by kernel_rfl
theorem Dl:(Tryz.prog).underlying 22=some (.slice 3):=by kernel_rfl
theorem sQ:(Tryz.prog).underlying 26=some (.slice 38):=by kernel_rfl
theorem un5:(Tryz.prog).underlying 5=some (.int .u8):=by kernel_rfl
theorem un50:(Tryz.prog).underlying 50=some (.slice 5):=by kernel_rfl
theorem uH:(Tryz.prog).underlying 62=some (.slice 9):=by kernel_rfl
theorem un75:(Tryz.prog).underlying 75=some (.slice 74):=by kernel_rfl
theorem un77:(Tryz.prog).underlying 77=some (.int .u64):=by kernel_rfl
theorem un9:(Tryz.prog).underlying 9=some .string:=by kernel_rfl
theorem un98:(Tryz.prog).underlying 98=some (.slice 113):=by kernel_rfl
theorem z113:zeroCells Tryz.prog 113=some [.d (.int .i64 0),.d (.int .i64 0)]:=by kernel_rfl
theorem z26:zeroCells Tryz.prog 26=some [.nil]:=by kernel_rfl
theorem z3:zeroCells Tryz.prog 3=some [.d (.int .i64 0)]:=by kernel_rfl
theorem z38:zeroCells Tryz.prog 38=some [.d (.str ⟨#[]⟩),.d (.str ⟨#[]⟩),.d (.int .i64 0),.d (.int .i64 0),.d (.int .i64 0),.d (.str ⟨#[]⟩)]:=by kernel_rfl
theorem z52:zeroCells Tryz.prog 52=some [.d .nilp,.nil]:=by kernel_rfl
theorem z74:zeroCells Tryz.prog 74=some [.d (.str ⟨#[]⟩),.d (.int .i64 0),.d (.int .i64 0)]:=by kernel_rfl
theorem z9:zeroCells Tryz.prog 9=some [.d (.str ⟨#[]⟩)]:=by kernel_rfl
theorem Cn : ∀ w, Go.Eng.tK w → Go.Lib.TabIs Go.Proofs.Tryz.prog w "internal/strconv.uint64pow10" .u64 Go.Lib.pow10Tab := fun _ h => h.2.1
theorem zW:∀w,Go.Eng.tK w->(∃m,w.cell? ⟨0,0,none⟩=some (.int .i64 m)):=λ_ h=>h.2.2
end Go.Proofs.YtnfedlledilojaaGreatDoor.Law

