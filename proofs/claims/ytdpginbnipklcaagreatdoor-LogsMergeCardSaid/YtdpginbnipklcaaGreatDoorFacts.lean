/-
  Closed facts on the types and functions of the program.
-/
import Derived.Test.YtdpginbnipklcaaGreatDoorProg
import Derived.Test.YtdpginbnipklcaaGreatDoorEng5
open Go Go.Eng Go.Proofs
namespace Go.Proofs.YtdpginbnipklcaaGreatDoor.Law
set_option maxRecDepth 100000
set_option linter.unusedVariables false
set_option maxHeartbeats 1000000
theorem ab115:uD Tryz.prog 115=some 24:=by kernel_rfl
theorem xO:uD Tryz.prog 130=some 65:=by kernel_rfl
theorem lb_ {a b:Nat} (h:Nat.ble a b=true):a<=b:=Nat.le_of_ble_eq_true h
abbrev SL_:=List (Nat×V)
theorem ag110:dz Tryz.prog 110=true:=by kernel_rfl
theorem ag22:dz Tryz.prog 22=false:=by kernel_rfl
theorem ag26:dz Tryz.prog 26=false:=by kernel_rfl
theorem ag3:dz Tryz.prog 3=false:=by kernel_rfl
theorem bL:dz Tryz.prog 31=true:=by kernel_rfl
theorem ag34:dz Tryz.prog 34=false:=by kernel_rfl
theorem ag5:dz Tryz.prog 5=false:=by kernel_rfl
theorem ag62:dz Tryz.prog 62=true:=by kernel_rfl
theorem ag9:dz Tryz.prog 9=false:=by kernel_rfl
theorem by110:jA Tryz.prog 110=16:=by kernel_rfl
theorem by3:jA Tryz.prog 3=8:=by kernel_rfl
theorem GK:jA Tryz.prog 31=72:=by kernel_rfl
theorem by9:jA Tryz.prog 9=16:=by kernel_rfl
theorem Hd:dA Tryz.prog 22=some 3:=by kernel_rfl
theorem wh:dA Tryz.prog 26=some 31:=by kernel_rfl
theorem el64:dA Tryz.prog 64=some 9:=by kernel_rfl
theorem el85:dA Tryz.prog 85=some 110:=by kernel_rfl
theorem sK:(dA Tryz.prog 22).bind (szT Tryz.prog)=some 1:=by kernel_rfl
theorem bg:(dA Tryz.prog 26).bind (szT Tryz.prog)=some 6:=by kernel_rfl
theorem es58:(dA Tryz.prog 58).bind (szT Tryz.prog)=some 1:=by kernel_rfl
theorem Hg:(dA Tryz.prog 63).bind (szT Tryz.prog)=some 3:=by kernel_rfl
theorem AO:(dA Tryz.prog 64).bind (szT Tryz.prog)=some 1:=by kernel_rfl
theorem es66:(dA Tryz.prog 66).bind (szT Tryz.prog)=some 1:=by kernel_rfl
theorem es67:(dA Tryz.prog 67).bind (szT Tryz.prog)=some 1:=by kernel_rfl
theorem CJ:(dA Tryz.prog 85).bind (szT Tryz.prog)=some 2:=by kernel_rfl
theorem y8:((dA Tryz.prog 22).bind (zeroCells Tryz.prog)).isSome=true:=by kernel_rfl
theorem ez26:((dA Tryz.prog 26).bind (zeroCells Tryz.prog)).isSome=true:=by kernel_rfl
theorem ez58:((dA Tryz.prog 58).bind (zeroCells Tryz.prog)).isSome=true:=by kernel_rfl
theorem ez63:((dA Tryz.prog 63).bind (zeroCells Tryz.prog)).isSome=true:=by kernel_rfl
theorem C8:((dA Tryz.prog 64).bind (zeroCells Tryz.prog)).isSome=true:=by kernel_rfl
theorem ez67:((dA Tryz.prog 67).bind (zeroCells Tryz.prog)).isSome=true:=by kernel_rfl
theorem ez85:((dA Tryz.prog 85).bind (zeroCells Tryz.prog)).isSome=true:=by kernel_rfl
theorem hb10:aR Tryz.prog 10=true:=by kernel_rfl
theorem hb11:aR Tryz.prog 11=true:=by kernel_rfl
theorem hb111:aR Tryz.prog 111=true:=by kernel_rfl
theorem hb112:aR Tryz.prog 112=true:=by kernel_rfl
theorem hb12:aR Tryz.prog 12=true:=by kernel_rfl
theorem hb13:aR Tryz.prog 13=true:=by kernel_rfl
theorem hb14:aR Tryz.prog 14=true:=by kernel_rfl
theorem hb15:aR Tryz.prog 15=true:=by kernel_rfl
theorem hb16:aR Tryz.prog 16=true:=by kernel_rfl
theorem hb17:aR Tryz.prog 17=true:=by kernel_rfl
theorem hb18:aR Tryz.prog 18=true:=by kernel_rfl
theorem hb19:aR Tryz.prog 19=true:=by kernel_rfl
theorem hb20:aR Tryz.prog 20=true:=by kernel_rfl
theorem Ic:aR Tryz.prog 21=true:=by kernel_rfl
theorem hb22:aR Tryz.prog 22=true:=by kernel_rfl
theorem hb23:aR Tryz.prog 23=true:=by kernel_rfl
theorem hb24:aR Tryz.prog 24=true:=by kernel_rfl
theorem hb25:aR Tryz.prog 25=true:=by kernel_rfl
theorem hb26:aR Tryz.prog 26=true:=by kernel_rfl
theorem hb27:aR Tryz.prog 27=true:=by kernel_rfl
theorem uU:aR Tryz.prog 28=true:=by kernel_rfl
theorem hb29:aR Tryz.prog 29=true:=by kernel_rfl
theorem hb30:aR Tryz.prog 30=true:=by kernel_rfl
theorem hb31:aR Tryz.prog 31=true:=by kernel_rfl
theorem hb32:aR Tryz.prog 32=true:=by kernel_rfl
theorem uY:aR Tryz.prog 33=true:=by kernel_rfl
theorem hb34:aR Tryz.prog 34=true:=by kernel_rfl
theorem hb35:aR Tryz.prog 35=true:=by kernel_rfl
theorem hb36:aR Tryz.prog 36=true:=by kernel_rfl
theorem hb37:aR Tryz.prog 37=true:=by kernel_rfl
theorem hb38:aR Tryz.prog 38=true:=by kernel_rfl
theorem hb39:aR Tryz.prog 39=true:=by kernel_rfl
theorem hb4:aR Tryz.prog 4=true:=by kernel_rfl
theorem hb40:aR Tryz.prog 40=true:=by kernel_rfl
theorem hb41:aR Tryz.prog 41=true:=by kernel_rfl
theorem hb42:aR Tryz.prog 42=true:=by kernel_rfl
theorem hb43:aR Tryz.prog 43=true:=by kernel_rfl
theorem hb44:aR Tryz.prog 44=true:=by kernel_rfl
theorem hb45:aR Tryz.prog 45=true:=by kernel_rfl
theorem hb46:aR Tryz.prog 46=true:=by kernel_rfl
theorem hb47:aR Tryz.prog 47=true:=by kernel_rfl
theorem hb48:aR Tryz.prog 48=true:=by kernel_rfl
theorem hb49:aR Tryz.prog 49=true:=by kernel_rfl
theorem hb5:aR Tryz.prog 5=true:=by kernel_rfl
theorem hb50:aR Tryz.prog 50=true:=by kernel_rfl
theorem hb51:aR Tryz.prog 51=true:=by kernel_rfl
theorem hb52:aR Tryz.prog 52=true:=by kernel_rfl
theorem hb53:aR Tryz.prog 53=true:=by kernel_rfl
theorem hb54:aR Tryz.prog 54=true:=by kernel_rfl
theorem hb55:aR Tryz.prog 55=true:=by kernel_rfl
theorem hb56:aR Tryz.prog 56=true:=by kernel_rfl
theorem uC:aR Tryz.prog 57=true:=by kernel_rfl
theorem hb58:aR Tryz.prog 58=true:=by kernel_rfl
theorem hb59:aR Tryz.prog 59=true:=by kernel_rfl
theorem hb6:aR Tryz.prog 6=true:=by kernel_rfl
theorem hb60:aR Tryz.prog 60=true:=by kernel_rfl
theorem hb61:aR Tryz.prog 61=true:=by kernel_rfl
theorem hb62:aR Tryz.prog 62=true:=by kernel_rfl
theorem hb63:aR Tryz.prog 63=true:=by kernel_rfl
theorem hb64:aR Tryz.prog 64=true:=by kernel_rfl
theorem hb65:aR Tryz.prog 65=true:=by kernel_rfl
theorem Ij:aR Tryz.prog 66=true:=by kernel_rfl
theorem hb67:aR Tryz.prog 67=true:=by kernel_rfl
theorem hb68:aR Tryz.prog 68=true:=by kernel_rfl
theorem hb7:aR Tryz.prog 7=true:=by kernel_rfl
theorem Eg:aR Tryz.prog 76=true:=by kernel_rfl
theorem hb78:aR Tryz.prog 78=true:=by kernel_rfl
theorem hb8:aR Tryz.prog 8=true:=by kernel_rfl
theorem hb86:aR Tryz.prog 86=true:=by kernel_rfl
theorem hb87:aR Tryz.prog 87=true:=by kernel_rfl
theorem hb88:aR Tryz.prog 88=true:=by kernel_rfl
theorem hb9:aR Tryz.prog 9=true:=by kernel_rfl
theorem Hm:aR Tryz.prog 93=true:=by kernel_rfl
theorem hb97:aR Tryz.prog 97=true:=by kernel_rfl
theorem nb104:aR Tryz.prog 104=false:=by kernel_rfl
theorem nb77:aR Tryz.prog 77=false:=by kernel_rfl
theorem qz:ku Tryz.prog 110 0=some (0,1):=by kernel_rfl
theorem rA:ku Tryz.prog 110 1=some (1,1):=by kernel_rfl
theorem Ce:ku Tryz.prog 25 0=some (0,1):=by kernel_rfl
theorem zh:ku Tryz.prog 25 1=some (1,1):=by kernel_rfl
theorem kv:ku Tryz.prog 31 0=some (0,1):=by kernel_rfl
theorem wV:ku Tryz.prog 31 1=some (1,1):=by kernel_rfl
theorem kH:ku Tryz.prog 31 2=some (2,1):=by kernel_rfl
theorem zT:ku Tryz.prog 31 3=some (3,1):=by kernel_rfl
theorem wS:ku Tryz.prog 31 4=some (4,1):=by kernel_rfl
theorem oH:ku Tryz.prog 31 5=some (5,1):=by kernel_rfl
theorem xh:ku Tryz.prog 62 0=some (0,1):=by kernel_rfl
theorem yY:ku Tryz.prog 62 1=some (1,1):=by kernel_rfl
theorem yT:ku Tryz.prog 62 2=some (2,1):=by kernel_rfl
theorem Bb:szT Tryz.prog 110=some 2:=by kernel_rfl
theorem sz22:szT Tryz.prog 22=some 1:=by kernel_rfl
theorem sz26:szT Tryz.prog 26=some 1:=by kernel_rfl
theorem sz3:szT Tryz.prog 3=some 1:=by kernel_rfl
theorem bf:szT Tryz.prog 31=some 6:=by kernel_rfl
theorem sz34:szT Tryz.prog 34=some 1:=by kernel_rfl
theorem sz5:szT Tryz.prog 5=some 1:=by kernel_rfl
theorem H6:szT Tryz.prog 62=some 3:=by kernel_rfl
theorem sz9:szT Tryz.prog 9=some 1:=by kernel_rfl
theorem CL:(Tryz.prog).underlying 22=some (.slice 3):=by kernel_rfl
theorem lK:(Tryz.prog).underlying 26=some (.slice 31):=by kernel_rfl
theorem un3:(Tryz.prog).underlying 3=some (.int .i64):=by kernel_rfl
theorem un5:(Tryz.prog).underlying 5=some (.int .u8):=by kernel_rfl
theorem un51:(Tryz.prog).underlying 51=some (.array 2 26):=by kernel_rfl
theorem un58:(Tryz.prog).underlying 58=some (.slice 34):=by kernel_rfl
theorem un63:(Tryz.prog).underlying 63=some (.slice 62):=by kernel_rfl
theorem un64:(Tryz.prog).underlying 64=some (.slice 9):=by kernel_rfl
theorem IP:(Tryz.prog).underlying 65=some (.int .u64):=by kernel_rfl
theorem un66:(Tryz.prog).underlying 66=some (.slice 5):=by kernel_rfl
theorem un67:(Tryz.prog).underlying 67=some (.slice 26):=by kernel_rfl
theorem un85:(Tryz.prog).underlying 85=some (.slice 110):=by kernel_rfl
theorem un9:(Tryz.prog).underlying 9=some .string:=by kernel_rfl
theorem ib:(Tryz.prog).underlying 94=some (.int .u64):=by kernel_rfl
theorem z110:zeroCells Tryz.prog 110=some [.d (.int .i64 0),.d (.int .i64 0)]:=by kernel_rfl
theorem z115:zeroCells Tryz.prog 115=some [.d (.int .u8 0),.d (.int .u8 0),.d (.int .u8 0),.d (.int .u8 0),.d (.int .u8 0),.d (.int .u8 0),.d (.int .u8 0),.d (.int .u8 0),.d (.int .u8 0),.d (.int .u8 0),.d (.int .u8 0),.d (.int .u8 0),.d (.int .u8 0),.d (.int .u8 0),.d (.int .u8 0),.d (.int .u8 0),.d (.int .u8 0),.d (.int .u8 0),.d (.int .u8 0),.d (.int .u8 0),.d (.int .u8 0),.d (.int .u8 0),.d (.int .u8 0),.d (.int .u8 0)]:=by kernel_rfl
theorem z130:zeroCells Tryz.prog 130=some [.d (.int .u8 0),.d (.int .u8 0),.d (.int .u8 0),.d (.int .u8 0),.d (.int .u8 0),.d (.int .u8 0),.d (.int .u8 0),.d (.int .u8 0),.d (.int .u8 0),.d (.int .u8 0),.d (.int .u8 0),.d (.int .u8 0),.d (.int .u8 0),.d (.int .u8 0),.d (.int .u8 0),.d (.int .u8 0),.d (.int .u8 0),.d (.int .u8 0),.d (.int .u8 0),.d (.int .u8 0),.d (.int .u8 0),.d (.int .u8 0),.d (.int .u8 0),.d (.int .u8 0),.d (.int .u8 0),.d (.int .u8 0),.d (.int .u8 0),.d (.int .u8 0),.d (.int .u8 0),.d (.int .u8 0),.d (.int .u8 0),.d (.int .u8 0),.d (.int .u8 0),.d (.int .u8 0),.d (.int .u8 0),.d (.int .u8 0),.d (.int .u8 0),.d (.int .u8 0),.d (.int .u8 0),.d (.int .u8 0),.d (.int .u8 0),.d (.int .u8 0),.d (.int .u8 0),.d (.int .u8 0),.d (.int .u8 0),.d (.int .u8 0),.d (.int .u8 0),.d (.int .u8 0),.d (.int .u8 0),.d (.int .u8 0),.d (.int .u8 0),.d (.int .u8 0),.d (.int .u8 0),.d (.int .u8 0),.d (.int .u8 0),.d (.int .u8 0),.d (.int .u8 0),.d (.int .u8 0),.d (.int .u8 0),.d (.int .u8 0),.d (.int .u8 0),.d (.int .u8 0),.d (.int .u8 0),.d (.int .u8 0),.d (.int .u8 0)]:=by kernel_rfl
theorem z3:zeroCells Tryz.prog 3=some [.d (.int .i64 0)]:=by kernel_rfl
theorem z31:zeroCells Tryz.prog 31=some [.d (.str ⟨#[]⟩),.d (.str ⟨#[]⟩),.d (.int .i64 0),.d (.int .i64 0),.d (.int .i64 0),.d (.str ⟨#[]⟩)]:=by kernel_rfl
theorem z62:zeroCells Tryz.prog 62=some [.d (.str ⟨#[]⟩),.d (.int .i64 0),.d (.int .i64 0)]:=by kernel_rfl
theorem z9:zeroCells Tryz.prog 9=some [.d (.str ⟨#[]⟩)]:=by kernel_rfl
theorem EO : ∀ w, Go.Eng.Al w → Go.Lib.TabIs Go.Proofs.Tryz.prog w "internal/strconv.uint64pow10" .u64 Go.Lib.pow10Tab := fun _ h => h.1
theorem laid_db : ∀ w, Go.Eng.Al w → Go.Lib.TabIs Go.Proofs.Tryz.prog w "math/bits.deBruijn64tab" .u8 (Go.Lib.deBruijn64tab.map (fun (n : Nat) => (n : Int))) := fun _ h => h.2
theorem db_g : Tryz.prog.globalNamed "math/bits.deBruijn64tab" = some 5 := by kernel_rfl
end Go.Proofs.YtdpginbnipklcaaGreatDoor.Law

