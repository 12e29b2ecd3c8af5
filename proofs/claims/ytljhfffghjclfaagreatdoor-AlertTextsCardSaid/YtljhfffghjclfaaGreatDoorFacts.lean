/-
  Closed facts on the types and functions of the program.
-/
import Derived.Test.YtljhfffghjclfaaGreatDoorProg
import Derived.Test.YtljhfffghjclfaaGreatDoorEng5
open Go Go.Eng Go.Proofs
namespace Go.Proofs.YtljhfffghjclfaaGreatDoor.Law
set_option maxRecDepth 100000
set_option linter.unusedVariables false
set_option maxHeartbeats 1000000
theorem lb_ {a b:Nat} (h:Nat.ble a b=true):a<=b:=Nat.le_of_ble_eq_true h
abbrev SL_:=List (Nat×V)
theorem ag22:cO Tryz.prog 22=false:=by kernel_rfl
theorem D6:cO Tryz.prog 26=false:=by kernel_rfl
theorem ag3:cO Tryz.prog 3=false:=by kernel_rfl
theorem uP:cO Tryz.prog 37=false:=by kernel_rfl
theorem xZ:cO Tryz.prog 38=false:=by kernel_rfl
theorem mQ:cO Tryz.prog 40=true:=by kernel_rfl
theorem Aj:cO Tryz.prog 64=true:=by kernel_rfl
theorem ag83:cO Tryz.prog 83=true:=by kernel_rfl
theorem ag9:cO Tryz.prog 9=false:=by kernel_rfl
theorem by3:bytesT Tryz.prog 3=8:=by kernel_rfl
theorem by40:bytesT Tryz.prog 40=128:=by kernel_rfl
theorem MV:bytesT Tryz.prog 64=32:=by kernel_rfl
theorem by9:bytesT Tryz.prog 9=16:=by kernel_rfl
theorem el22:elemT Tryz.prog 22=some 3:=by kernel_rfl
theorem Gg:elemT Tryz.prog 26=some 40:=by kernel_rfl
theorem Cu:elemT Tryz.prog 37=some 9:=by kernel_rfl
theorem Ci:elemT Tryz.prog 38=some 64:=by kernel_rfl
theorem Ms:(elemT Tryz.prog 103).bind (szT Tryz.prog)=some 3:=by kernel_rfl
theorem jZ:(elemT Tryz.prog 22).bind (szT Tryz.prog)=some 1:=by kernel_rfl
theorem lJ:(elemT Tryz.prog 26).bind (szT Tryz.prog)=some 9:=by kernel_rfl
theorem fO:(elemT Tryz.prog 37).bind (szT Tryz.prog)=some 1:=by kernel_rfl
theorem Au:(elemT Tryz.prog 38).bind (szT Tryz.prog)=some 4:=by kernel_rfl
theorem es49:(elemT Tryz.prog 49).bind (szT Tryz.prog)=some 1:=by kernel_rfl
theorem ez103:((elemT Tryz.prog 103).bind (zeroCells Tryz.prog)).isSome=true:=by kernel_rfl
theorem uy:((elemT Tryz.prog 22).bind (zeroCells Tryz.prog)).isSome=true:=by kernel_rfl
theorem IG:((elemT Tryz.prog 26).bind (zeroCells Tryz.prog)).isSome=true:=by kernel_rfl
theorem nE:((elemT Tryz.prog 37).bind (zeroCells Tryz.prog)).isSome=true:=by kernel_rfl
theorem J2:((elemT Tryz.prog 38).bind (zeroCells Tryz.prog)).isSome=true:=by kernel_rfl
theorem ez49:((elemT Tryz.prog 49).bind (zeroCells Tryz.prog)).isSome=true:=by kernel_rfl
theorem hb10:aF Tryz.prog 10=true:=by kernel_rfl
theorem hb103:aF Tryz.prog 103=true:=by kernel_rfl
theorem hb104:aF Tryz.prog 104=true:=by kernel_rfl
theorem hb106:aF Tryz.prog 106=true:=by kernel_rfl
theorem hb11:aF Tryz.prog 11=true:=by kernel_rfl
theorem hb12:aF Tryz.prog 12=true:=by kernel_rfl
theorem hb121:aF Tryz.prog 121=true:=by kernel_rfl
theorem hb122:aF Tryz.prog 122=true:=by kernel_rfl
theorem hb123:aF Tryz.prog 123=true:=by kernel_rfl
theorem hb124:aF Tryz.prog 124=true:=by kernel_rfl
theorem hb125:aF Tryz.prog 125=true:=by kernel_rfl
theorem hb13:aF Tryz.prog 13=true:=by kernel_rfl
theorem hb135:aF Tryz.prog 135=true:=by kernel_rfl
theorem hb14:aF Tryz.prog 14=true:=by kernel_rfl
theorem hb144:aF Tryz.prog 144=true:=by kernel_rfl
theorem IL:aF Tryz.prog 15=true:=by kernel_rfl
theorem BP:aF Tryz.prog 16=true:=by kernel_rfl
theorem Cr:aF Tryz.prog 17=true:=by kernel_rfl
theorem IX:aF Tryz.prog 18=true:=by kernel_rfl
theorem hb19:aF Tryz.prog 19=true:=by kernel_rfl
theorem Ct:aF Tryz.prog 20=true:=by kernel_rfl
theorem hb21:aF Tryz.prog 21=true:=by kernel_rfl
theorem hb22:aF Tryz.prog 22=true:=by kernel_rfl
theorem hb23:aF Tryz.prog 23=true:=by kernel_rfl
theorem hb24:aF Tryz.prog 24=true:=by kernel_rfl
theorem hb25:aF Tryz.prog 25=true:=by kernel_rfl
theorem hb26:aF Tryz.prog 26=true:=by kernel_rfl
theorem hb27:aF Tryz.prog 27=true:=by kernel_rfl
theorem hb28:aF Tryz.prog 28=true:=by kernel_rfl
theorem hb29:aF Tryz.prog 29=true:=by kernel_rfl
theorem hb30:aF Tryz.prog 30=true:=by kernel_rfl
theorem hb31:aF Tryz.prog 31=true:=by kernel_rfl
theorem hb32:aF Tryz.prog 32=true:=by kernel_rfl
theorem hb33:aF Tryz.prog 33=true:=by kernel_rfl
theorem hb34:aF Tryz.prog 34=true:=by kernel_rfl
theorem hb35:aF Tryz.prog 35=true:=by kernel_rfl
theorem hb36:aF Tryz.prog 36=true:=by kernel_rfl
theorem zA:aF Tryz.prog 37=true:=by kernel_rfl
theorem hb38:aF Tryz.prog 38=true:=by kernel_rfl
theorem hb39:aF Tryz.prog 39=true:=by kernel_rfl
theorem hb4:aF Tryz.prog 4=true:=by kernel_rfl
theorem hb40:aF Tryz.prog 40=true:=by kernel_rfl
theorem hb41:aF Tryz.prog 41=true:=by kernel_rfl
theorem hb42:aF Tryz.prog 42=true:=by kernel_rfl
theorem hb43:aF Tryz.prog 43=true:=by kernel_rfl
theorem hb44:aF Tryz.prog 44=true:=by kernel_rfl
theorem hb46:aF Tryz.prog 46=true:=by kernel_rfl
theorem hb47:aF Tryz.prog 47=true:=by kernel_rfl
theorem hb48:aF Tryz.prog 48=true:=by kernel_rfl
theorem hb49:aF Tryz.prog 49=true:=by kernel_rfl
theorem hb5:aF Tryz.prog 5=true:=by kernel_rfl
theorem hb50:aF Tryz.prog 50=true:=by kernel_rfl
theorem hb51:aF Tryz.prog 51=true:=by kernel_rfl
theorem hb52:aF Tryz.prog 52=true:=by kernel_rfl
theorem hb53:aF Tryz.prog 53=true:=by kernel_rfl
theorem hb54:aF Tryz.prog 54=true:=by kernel_rfl
theorem hb55:aF Tryz.prog 55=true:=by kernel_rfl
theorem hb56:aF Tryz.prog 56=true:=by kernel_rfl
theorem hb57:aF Tryz.prog 57=true:=by kernel_rfl
theorem hb58:aF Tryz.prog 58=true:=by kernel_rfl
theorem hb59:aF Tryz.prog 59=true:=by kernel_rfl
theorem hb6:aF Tryz.prog 6=true:=by kernel_rfl
theorem hb60:aF Tryz.prog 60=true:=by kernel_rfl
theorem hb61:aF Tryz.prog 61=true:=by kernel_rfl
theorem hb62:aF Tryz.prog 62=true:=by kernel_rfl
theorem hb63:aF Tryz.prog 63=true:=by kernel_rfl
theorem hb64:aF Tryz.prog 64=true:=by kernel_rfl
theorem hb65:aF Tryz.prog 65=true:=by kernel_rfl
theorem hb66:aF Tryz.prog 66=true:=by kernel_rfl
theorem hb67:aF Tryz.prog 67=true:=by kernel_rfl
theorem EU:aF Tryz.prog 68=true:=by kernel_rfl
theorem hb69:aF Tryz.prog 69=true:=by kernel_rfl
theorem hb7:aF Tryz.prog 7=true:=by kernel_rfl
theorem hb70:aF Tryz.prog 70=true:=by kernel_rfl
theorem hb71:aF Tryz.prog 71=true:=by kernel_rfl
theorem hb72:aF Tryz.prog 72=true:=by kernel_rfl
theorem hb73:aF Tryz.prog 73=true:=by kernel_rfl
theorem hb74:aF Tryz.prog 74=true:=by kernel_rfl
theorem hb77:aF Tryz.prog 77=true:=by kernel_rfl
theorem hb78:aF Tryz.prog 78=true:=by kernel_rfl
theorem hb79:aF Tryz.prog 79=true:=by kernel_rfl
theorem hb8:aF Tryz.prog 8=true:=by kernel_rfl
theorem hb80:aF Tryz.prog 80=true:=by kernel_rfl
theorem hb81:aF Tryz.prog 81=true:=by kernel_rfl
theorem hb82:aF Tryz.prog 82=true:=by kernel_rfl
theorem hb83:aF Tryz.prog 83=true:=by kernel_rfl
theorem hb86:aF Tryz.prog 86=true:=by kernel_rfl
theorem hb87:aF Tryz.prog 87=true:=by kernel_rfl
theorem hb88:aF Tryz.prog 88=true:=by kernel_rfl
theorem hb89:aF Tryz.prog 89=true:=by kernel_rfl
theorem hb9:aF Tryz.prog 9=true:=by kernel_rfl
theorem hb90:aF Tryz.prog 90=true:=by kernel_rfl
theorem hb91:aF Tryz.prog 91=true:=by kernel_rfl
theorem hb92:aF Tryz.prog 92=true:=by kernel_rfl
theorem hb93:aF Tryz.prog 93=true:=by kernel_rfl
theorem hb94:aF Tryz.prog 94=true:=by kernel_rfl
theorem if58:JN Tryz.prog 58=true:=by kernel_rfl
theorem Jw:xw Tryz.prog 100=some (9,3):=by kernel_rfl
theorem mt68:xw Tryz.prog 68=some (9,4):=by kernel_rfl
theorem nb117:aF Tryz.prog 117=false:=by kernel_rfl
theorem nb155:aF Tryz.prog 155=false:=by kernel_rfl
theorem Ea:fC Tryz.prog 25 0=some (0,1):=by kernel_rfl
theorem Bq:fC Tryz.prog 25 1=some (1,1):=by kernel_rfl
theorem jT:fC Tryz.prog 40 0=some (0,1):=by kernel_rfl
theorem Bo:fC Tryz.prog 40 1=some (1,1):=by kernel_rfl
theorem mr:fC Tryz.prog 40 2=some (2,1):=by kernel_rfl
theorem iK:fC Tryz.prog 40 3=some (3,1):=by kernel_rfl
theorem jb:fC Tryz.prog 40 4=some (4,1):=by kernel_rfl
theorem wC:fC Tryz.prog 40 5=some (5,1):=by kernel_rfl
theorem Aw:fC Tryz.prog 40 6=some (6,1):=by kernel_rfl
theorem jE:fC Tryz.prog 40 7=some (7,1):=by kernel_rfl
theorem kC:fC Tryz.prog 40 8=some (8,1):=by kernel_rfl
theorem rZ:fC Tryz.prog 64 0=some (0,1):=by kernel_rfl
theorem sI:fC Tryz.prog 64 1=some (1,1):=by kernel_rfl
theorem yG:fC Tryz.prog 64 2=some (2,1):=by kernel_rfl
theorem wy:fC Tryz.prog 64 3=some (3,1):=by kernel_rfl
theorem qH:fC Tryz.prog 76 0=some (0,1):=by kernel_rfl
theorem yO:fC Tryz.prog 76 1=some (1,1):=by kernel_rfl
theorem Iw:fC Tryz.prog 83 0=some (0,1):=by kernel_rfl
theorem Ih:fC Tryz.prog 83 1=some (1,1):=by kernel_rfl
theorem Ig:fC Tryz.prog 83 2=some (2,1):=by kernel_rfl
theorem sz22:szT Tryz.prog 22=some 1:=by kernel_rfl
theorem Cg:szT Tryz.prog 26=some 1:=by kernel_rfl
theorem sz3:szT Tryz.prog 3=some 1:=by kernel_rfl
theorem oI:szT Tryz.prog 37=some 1:=by kernel_rfl
theorem rR:szT Tryz.prog 38=some 1:=by kernel_rfl
theorem iT:szT Tryz.prog 40=some 9:=by kernel_rfl
theorem nW:szT Tryz.prog 64=some 4:=by kernel_rfl
theorem sz83:szT Tryz.prog 83=some 3:=by kernel_rfl
theorem sz9:szT Tryz.prog 9=some 1:=by kernel_rfl
theorem un103:(Tryz.prog).underlying 103=some (.slice 83):=by kernel_rfl
theorem un107:(Tryz.prog).underlying 107=some (.int .u64):=by kernel_rfl
theorem un130:(Tryz.prog).underlying 130=some (.int .u64):=by kernel_rfl
theorem un21:(Tryz.prog).underlying 21=some (.int .i32):=by kernel_rfl
theorem IA:(Tryz.prog).underlying 22=some (.slice 3):=by kernel_rfl
theorem oK:(Tryz.prog).underlying 26=some (.slice 40):=by kernel_rfl
theorem un3:(Tryz.prog).underlying 3=some (.int .i64):=by kernel_rfl
theorem kQ:(Tryz.prog).underlying 37=some (.slice 9):=by kernel_rfl
theorem Cx:(Tryz.prog).underlying 38=some (.slice 64):=by kernel_rfl
theorem un4:(Tryz.prog).underlying 4=some .bool:=by kernel_rfl
theorem un5:(Tryz.prog).underlying 5=some (.int .u8):=by kernel_rfl
theorem un9:(Tryz.prog).underlying 9=some .string:=by kernel_rfl
theorem z3:zeroCells Tryz.prog 3=some [.d (.int .i64 0)]:=by kernel_rfl
theorem z40:zeroCells Tryz.prog 40=some [.d (.str ⟨#[]⟩),.d (.str ⟨#[]⟩),.d (.int .i64 0),.nil,.d (.int .i64 0),.d (.int .i64 0),.d (.int .i64 0),.nil,.d (.str ⟨#[]⟩)]:=by kernel_rfl
theorem z56:zeroCells Tryz.prog 56=some [.d .nilp,.nil]:=by kernel_rfl
theorem z64:zeroCells Tryz.prog 64=some [.d (.int .i64 0),.d (.int .i64 0),.d (.int .i64 0),.d (.int .i64 0)]:=by kernel_rfl
theorem z83:zeroCells Tryz.prog 83=some [.d (.str ⟨#[]⟩),.d (.int .i64 0),.d (.int .i64 0)]:=by kernel_rfl
theorem z9:zeroCells Tryz.prog 9=some [.d (.str ⟨#[]⟩)]:=by kernel_rfl
theorem Hf : ∀ w, Go.Eng.tu w → Go.Lib.TabIs Go.Proofs.Tryz.prog w "internal/strconv.uint64pow10" .u64 Go.Lib.pow10Tab := fun _ h => h.1
theorem y8:∀w,Go.Eng.tu w->(∃m,w.cell? ⟨2,0,none⟩=some (.int .i64 m)):=λ_ h=>h.2.1
theorem Kk:∀w,Go.Eng.tu w->Go.Lib.Utf8Tabs 0 1 w:=λ_ h=>h.2.2
end Go.Proofs.YtljhfffghjclfaaGreatDoor.Law

