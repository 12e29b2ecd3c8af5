/-
  Closed facts on the types and functions of the program.
-/
import Derived.Test.YtacmlgpnplklaaaGreatDoorProg
import Derived.Test.YtacmlgpnplklaaaGreatDoorEng5
open Go Go.Eng Go.Proofs
namespace Go.Proofs.YtacmlgpnplklaaaGreatDoor.Law
set_option maxRecDepth 100000
set_option linter.unusedVariables false
set_option maxHeartbeats 1000000
theorem ru:bL Tryz.prog 109=true:=by kernel_rfl
theorem lb_ {a b:Nat} (h:Nat.ble a b=true):a<=b:=Nat.le_of_ble_eq_true h
abbrev SL_:=List (Nat×V)
theorem ag22:bL Tryz.prog 22=false:=by kernel_rfl
theorem uI:bL Tryz.prog 26=false:=by kernel_rfl
theorem nM:bL Tryz.prog 28=true:=by kernel_rfl
theorem ag3:bL Tryz.prog 3=false:=by kernel_rfl
theorem ag4:bL Tryz.prog 4=false:=by kernel_rfl
theorem xx:bL Tryz.prog 47=true:=by kernel_rfl
theorem ES:bL Tryz.prog 49=true:=by kernel_rfl
theorem ag79:bL Tryz.prog 79=false:=by kernel_rfl
theorem ag9:bL Tryz.prog 9=false:=by kernel_rfl
theorem FV:bytesT Tryz.prog 109=16:=by kernel_rfl
theorem by3:bytesT Tryz.prog 3=8:=by kernel_rfl
theorem by47:bytesT Tryz.prog 47=32:=by kernel_rfl
theorem Iz:bytesT Tryz.prog 49=56:=by kernel_rfl
theorem by9:bytesT Tryz.prog 9=16:=by kernel_rfl
theorem wI:elemT Tryz.prog 104=some 109:=by kernel_rfl
theorem EZ:elemT Tryz.prog 22=some 3:=by kernel_rfl
theorem zR:elemT Tryz.prog 26=some 49:=by kernel_rfl
theorem el67:elemT Tryz.prog 67=some 9:=by kernel_rfl
theorem Ei:elemT Tryz.prog 79=some 47:=by kernel_rfl
theorem jo:(elemT Tryz.prog 104).bind (szT Tryz.prog)=some 2:=by kernel_rfl
theorem H8:(elemT Tryz.prog 114).bind (szT Tryz.prog)=some 1:=by kernel_rfl
theorem iq:(elemT Tryz.prog 22).bind (szT Tryz.prog)=some 1:=by kernel_rfl
theorem xA:(elemT Tryz.prog 26).bind (szT Tryz.prog)=some 6:=by kernel_rfl
theorem rX:(elemT Tryz.prog 67).bind (szT Tryz.prog)=some 1:=by kernel_rfl
theorem Hl:(elemT Tryz.prog 79).bind (szT Tryz.prog)=some 4:=by kernel_rfl
theorem F8:((elemT Tryz.prog 104).bind (zeroCells Tryz.prog)).isSome=true:=by kernel_rfl
theorem ez114:((elemT Tryz.prog 114).bind (zeroCells Tryz.prog)).isSome=true:=by kernel_rfl
theorem tF:((elemT Tryz.prog 22).bind (zeroCells Tryz.prog)).isSome=true:=by kernel_rfl
theorem IG:((elemT Tryz.prog 26).bind (zeroCells Tryz.prog)).isSome=true:=by kernel_rfl
theorem ez67:((elemT Tryz.prog 67).bind (zeroCells Tryz.prog)).isSome=true:=by kernel_rfl
theorem ez79:((elemT Tryz.prog 79).bind (zeroCells Tryz.prog)).isSome=true:=by kernel_rfl
theorem hb10:aB Tryz.prog 10=true:=by kernel_rfl
theorem hb107:aB Tryz.prog 107=true:=by kernel_rfl
theorem hb11:aB Tryz.prog 11=true:=by kernel_rfl
theorem hb12:aB Tryz.prog 12=true:=by kernel_rfl
theorem hb123:aB Tryz.prog 123=true:=by kernel_rfl
theorem hb124:aB Tryz.prog 124=true:=by kernel_rfl
theorem hb13:aB Tryz.prog 13=true:=by kernel_rfl
theorem hb14:aB Tryz.prog 14=true:=by kernel_rfl
theorem hb140:aB Tryz.prog 140=true:=by kernel_rfl
theorem Ca:aB Tryz.prog 15=true:=by kernel_rfl
theorem hb16:aB Tryz.prog 16=true:=by kernel_rfl
theorem Ic:aB Tryz.prog 17=true:=by kernel_rfl
theorem hb18:aB Tryz.prog 18=true:=by kernel_rfl
theorem hb19:aB Tryz.prog 19=true:=by kernel_rfl
theorem ET:aB Tryz.prog 20=true:=by kernel_rfl
theorem hb21:aB Tryz.prog 21=true:=by kernel_rfl
theorem hb22:aB Tryz.prog 22=true:=by kernel_rfl
theorem hb23:aB Tryz.prog 23=true:=by kernel_rfl
theorem hb24:aB Tryz.prog 24=true:=by kernel_rfl
theorem hb25:aB Tryz.prog 25=true:=by kernel_rfl
theorem hb26:aB Tryz.prog 26=true:=by kernel_rfl
theorem hb27:aB Tryz.prog 27=true:=by kernel_rfl
theorem hb28:aB Tryz.prog 28=true:=by kernel_rfl
theorem hb29:aB Tryz.prog 29=true:=by kernel_rfl
theorem Ev:aB Tryz.prog 30=true:=by kernel_rfl
theorem hb31:aB Tryz.prog 31=true:=by kernel_rfl
theorem hb32:aB Tryz.prog 32=true:=by kernel_rfl
theorem hb33:aB Tryz.prog 33=true:=by kernel_rfl
theorem hb34:aB Tryz.prog 34=true:=by kernel_rfl
theorem hb35:aB Tryz.prog 35=true:=by kernel_rfl
theorem hb36:aB Tryz.prog 36=true:=by kernel_rfl
theorem hb37:aB Tryz.prog 37=true:=by kernel_rfl
theorem hb38:aB Tryz.prog 38=true:=by kernel_rfl
theorem hb39:aB Tryz.prog 39=true:=by kernel_rfl
theorem hb4:aB Tryz.prog 4=true:=by kernel_rfl
theorem hb40:aB Tryz.prog 40=true:=by kernel_rfl
theorem BL:aB Tryz.prog 41=true:=by kernel_rfl
theorem hb42:aB Tryz.prog 42=true:=by kernel_rfl
theorem hb43:aB Tryz.prog 43=true:=by kernel_rfl
theorem hb44:aB Tryz.prog 44=true:=by kernel_rfl
theorem hb45:aB Tryz.prog 45=true:=by kernel_rfl
theorem hb46:aB Tryz.prog 46=true:=by kernel_rfl
theorem hb47:aB Tryz.prog 47=true:=by kernel_rfl
theorem hb48:aB Tryz.prog 48=true:=by kernel_rfl
theorem hb5:aB Tryz.prog 5=true:=by kernel_rfl
theorem hb50:aB Tryz.prog 50=true:=by kernel_rfl
theorem hb51:aB Tryz.prog 51=true:=by kernel_rfl
theorem hb52:aB Tryz.prog 52=true:=by kernel_rfl
theorem hb53:aB Tryz.prog 53=true:=by kernel_rfl
theorem hb54:aB Tryz.prog 54=true:=by kernel_rfl
theorem hb55:aB Tryz.prog 55=true:=by kernel_rfl
theorem hb56:aB Tryz.prog 56=true:=by kernel_rfl
theorem hb57:aB Tryz.prog 57=true:=by kernel_rfl
theorem hb58:aB Tryz.prog 58=true:=by kernel_rfl
theorem hb59:aB Tryz.prog 59=true:=by kernel_rfl
theorem hb6:aB Tryz.prog 6=true:=by kernel_rfl
theorem hb60:aB Tryz.prog 60=true:=by kernel_rfl
theorem hb61:aB Tryz.prog 61=true:=by kernel_rfl
theorem hb62:aB Tryz.prog 62=true:=by kernel_rfl
theorem hb65:aB Tryz.prog 65=true:=by kernel_rfl
theorem hb68:aB Tryz.prog 68=true:=by kernel_rfl
theorem hb69:aB Tryz.prog 69=true:=by kernel_rfl
theorem hb7:aB Tryz.prog 7=true:=by kernel_rfl
theorem hb70:aB Tryz.prog 70=true:=by kernel_rfl
theorem hb71:aB Tryz.prog 71=true:=by kernel_rfl
theorem hb72:aB Tryz.prog 72=true:=by kernel_rfl
theorem hb73:aB Tryz.prog 73=true:=by kernel_rfl
theorem hb74:aB Tryz.prog 74=true:=by kernel_rfl
theorem hb75:aB Tryz.prog 75=true:=by kernel_rfl
theorem hb76:aB Tryz.prog 76=true:=by kernel_rfl
theorem hb77:aB Tryz.prog 77=true:=by kernel_rfl
theorem hb78:aB Tryz.prog 78=true:=by kernel_rfl
theorem hb8:aB Tryz.prog 8=true:=by kernel_rfl
theorem hb80:aB Tryz.prog 80=true:=by kernel_rfl
theorem hb85:aB Tryz.prog 85=true:=by kernel_rfl
theorem hb86:aB Tryz.prog 86=true:=by kernel_rfl
theorem hb87:aB Tryz.prog 87=true:=by kernel_rfl
theorem hb9:aB Tryz.prog 9=true:=by kernel_rfl
theorem hb90:aB Tryz.prog 90=true:=by kernel_rfl
theorem hb92:aB Tryz.prog 92=true:=by kernel_rfl
theorem hb93:aB Tryz.prog 93=true:=by kernel_rfl
theorem hb94:aB Tryz.prog 94=true:=by kernel_rfl
theorem if58:Fg Tryz.prog 58=true:=by kernel_rfl
theorem nb99:aB Tryz.prog 99=false:=by kernel_rfl
theorem iY:fH Tryz.prog 109 0=some (0,1):=by kernel_rfl
theorem mY:fH Tryz.prog 109 1=some (1,1):=by kernel_rfl
theorem Be:fH Tryz.prog 25 0=some (0,1):=by kernel_rfl
theorem xU:fH Tryz.prog 25 1=some (1,1):=by kernel_rfl
theorem pY:fH Tryz.prog 28 0=some (0,1):=by kernel_rfl
theorem mq:fH Tryz.prog 28 1=some (1,1):=by kernel_rfl
theorem lC:fH Tryz.prog 28 2=some (2,1):=by kernel_rfl
theorem iQ:fH Tryz.prog 28 3=some (3,1):=by kernel_rfl
theorem kU:fH Tryz.prog 47 0=some (0,1):=by kernel_rfl
theorem jI:fH Tryz.prog 47 1=some (1,1):=by kernel_rfl
theorem oM:fH Tryz.prog 47 2=some (2,1):=by kernel_rfl
theorem mg:fH Tryz.prog 47 3=some (3,1):=by kernel_rfl
theorem qE:fH Tryz.prog 49 0=some (0,1):=by kernel_rfl
theorem jJ:fH Tryz.prog 49 1=some (1,4):=by kernel_rfl
theorem BA:fH Tryz.prog 49 2=some (5,1):=by kernel_rfl
theorem kz:szT Tryz.prog 109=some 2:=by kernel_rfl
theorem sz22:szT Tryz.prog 22=some 1:=by kernel_rfl
theorem qc:szT Tryz.prog 26=some 1:=by kernel_rfl
theorem iK:szT Tryz.prog 28=some 4:=by kernel_rfl
theorem sz3:szT Tryz.prog 3=some 1:=by kernel_rfl
theorem sz4:szT Tryz.prog 4=some 1:=by kernel_rfl
theorem nC:szT Tryz.prog 47=some 4:=by kernel_rfl
theorem pO:szT Tryz.prog 49=some 6:=by kernel_rfl
theorem sz79:szT Tryz.prog 79=some 1:=by kernel_rfl
theorem sz9:szT Tryz.prog 9=some 1:=by kernel_rfl
theorem sN:(Tryz.prog).underlying 104=some (.slice 109):=by kernel_rfl
theorem un114:(Tryz.prog).underlying 114=some (.slice 79):=by kernel_rfl
theorem un118:(Tryz.prog).underlying 118=some (.int .u64):=by kernel_rfl
theorem un122:(Tryz.prog).underlying 122=some (.int .u64):=by kernel_rfl
theorem un21:(Tryz.prog).underlying 21=some (.int .i32):=by kernel_rfl
theorem sO:(Tryz.prog).underlying 22=some (.slice 3):=by kernel_rfl
theorem uV:(Tryz.prog).underlying 26=some (.slice 49):=by kernel_rfl
theorem un3:(Tryz.prog).underlying 3=some (.int .i64):=by kernel_rfl
theorem un5:(Tryz.prog).underlying 5=some (.int .u8):=by kernel_rfl
theorem uM:(Tryz.prog).underlying 67=some (.slice 9):=by kernel_rfl
theorem Bi:(Tryz.prog).underlying 79=some (.slice 47):=by kernel_rfl
theorem un9:(Tryz.prog).underlying 9=some .string:=by kernel_rfl
theorem z109:zeroCells Tryz.prog 109=some [.d (.int .i64 0),.d (.int .i64 0)]:=by kernel_rfl
theorem z28:zeroCells Tryz.prog 28=some [.d (.str ⟨#[]⟩),.d (.int .i64 0),.d (.int .i64 0),.nil]:=by kernel_rfl
theorem z3:zeroCells Tryz.prog 3=some [.d (.int .i64 0)]:=by kernel_rfl
theorem z4:zeroCells Tryz.prog 4=some [.d (.bool false)]:=by kernel_rfl
theorem z47:zeroCells Tryz.prog 47=some [.d (.int .i64 0),.d (.int .i64 0),.d (.int .i64 0),.d (.int .i64 0)]:=by kernel_rfl
theorem z49:zeroCells Tryz.prog 49=some [.d (.str ⟨#[]⟩),.d (.int .i64 0),.d (.int .i64 0),.d (.int .i64 0),.d (.int .i64 0),.d (.int .i64 0)]:=by kernel_rfl
theorem z56:zeroCells Tryz.prog 56=some [.d .nilp,.nil]:=by kernel_rfl
theorem z9:zeroCells Tryz.prog 9=some [.d (.str ⟨#[]⟩)]:=by kernel_rfl
theorem EQ : ∀ w, Go.Eng.wY w → Go.Lib.TabIs Go.Proofs.Tryz.prog w "internal/strconv.uint64pow10" .u64 Go.Lib.pow10Tab := fun _ h => h.2.1
theorem Cy:∀w,Go.Eng.wY w->(∃m,w.cell? ⟨0,0,none⟩=some (.int .i64 m)):=λ_ h=>h.2.2
end Go.Proofs.YtacmlgpnplklaaaGreatDoor.Law

