/-
  Closed facts on the types and functions of the program.
-/
import Derived.Test.YtdenjndllgahgaaGreatDoorProg
import Derived.Test.YtdenjndllgahgaaGreatDoorEng5
open Go Go.Eng Go.Proofs
namespace Go.Proofs.YtdenjndllgahgaaGreatDoor.Law
set_option maxRecDepth 100000
set_option linter.unusedVariables false
set_option maxHeartbeats 1000000
theorem ab197:qg Tryz.prog 197=some 24:=by kernel_rfl
theorem tV:qg Tryz.prog 223=some 65:=by kernel_rfl
theorem Cb:bn Tryz.prog 101=true:=by kernel_rfl
theorem lb_ {a b:Nat} (h:Nat.ble a b=true):a<=b:=Nat.le_of_ble_eq_true h
abbrev SL_:=List (Nat×V)
theorem ag179:bn Tryz.prog 179=true:=by kernel_rfl
theorem ag22:bn Tryz.prog 22=false:=by kernel_rfl
theorem ag28:bn Tryz.prog 28=false:=by kernel_rfl
theorem ag3:bn Tryz.prog 3=false:=by kernel_rfl
theorem jK:bn Tryz.prog 43=true:=by kernel_rfl
theorem ag5:bn Tryz.prog 5=false:=by kernel_rfl
theorem ag9:bn Tryz.prog 9=false:=by kernel_rfl
theorem by179:gN Tryz.prog 179=16:=by kernel_rfl
theorem by43:gN Tryz.prog 43=72:=by kernel_rfl
theorem by9:gN Tryz.prog 9=16:=by kernel_rfl
theorem BZ:bK Tryz.prog 151=some 179:=by kernel_rfl
theorem el26:bK Tryz.prog 26=some 43:=by kernel_rfl
theorem l9:bK Tryz.prog 34=some 9:=by kernel_rfl
theorem rF:(bK Tryz.prog 151).bind (szT Tryz.prog)=some 2:=by kernel_rfl
theorem sZ:(bK Tryz.prog 22).bind (szT Tryz.prog)=some 1:=by kernel_rfl
theorem xe:(bK Tryz.prog 26).bind (szT Tryz.prog)=some 6:=by kernel_rfl
theorem gu:(bK Tryz.prog 34).bind (szT Tryz.prog)=some 1:=by kernel_rfl
theorem Dr:(bK Tryz.prog 74).bind (szT Tryz.prog)=some 3:=by kernel_rfl
theorem zy:(bK Tryz.prog 90).bind (szT Tryz.prog)=some 1:=by kernel_rfl
theorem es92:(bK Tryz.prog 92).bind (szT Tryz.prog)=some 1:=by kernel_rfl
theorem ez151:((bK Tryz.prog 151).bind (zeroCells Tryz.prog)).isSome=true:=by kernel_rfl
theorem y5:((bK Tryz.prog 22).bind (zeroCells Tryz.prog)).isSome=true:=by kernel_rfl
theorem ez26:((bK Tryz.prog 26).bind (zeroCells Tryz.prog)).isSome=true:=by kernel_rfl
theorem mY:((bK Tryz.prog 34).bind (zeroCells Tryz.prog)).isSome=true:=by kernel_rfl
theorem ez74:((bK Tryz.prog 74).bind (zeroCells Tryz.prog)).isSome=true:=by kernel_rfl
theorem BD:((bK Tryz.prog 90).bind (zeroCells Tryz.prog)).isSome=true:=by kernel_rfl
theorem hb10:aB Tryz.prog 10=true:=by kernel_rfl
theorem hb100:aB Tryz.prog 100=true:=by kernel_rfl
theorem Ao:aB Tryz.prog 102=true:=by kernel_rfl
theorem DN:aB Tryz.prog 107=true:=by kernel_rfl
theorem hb108:aB Tryz.prog 108=true:=by kernel_rfl
theorem hb109:aB Tryz.prog 109=true:=by kernel_rfl
theorem hb11:aB Tryz.prog 11=true:=by kernel_rfl
theorem hb110:aB Tryz.prog 110=true:=by kernel_rfl
theorem hb111:aB Tryz.prog 111=true:=by kernel_rfl
theorem hb112:aB Tryz.prog 112=true:=by kernel_rfl
theorem hb113:aB Tryz.prog 113=true:=by kernel_rfl
theorem hb114:aB Tryz.prog 114=true:=by kernel_rfl
theorem hb117:aB Tryz.prog 117=true:=by kernel_rfl
theorem hb118:aB Tryz.prog 118=true:=by kernel_rfl
theorem BX:aB Tryz.prog 119=true:=by kernel_rfl
theorem C9:aB Tryz.prog 12=true:=by kernel_rfl
theorem hb120:aB Tryz.prog 120=true:=by kernel_rfl
theorem hb121:aB Tryz.prog 121=true:=by kernel_rfl
theorem Cj:aB Tryz.prog 123=true:=by kernel_rfl
theorem hb13:aB Tryz.prog 13=true:=by kernel_rfl
theorem hb130:aB Tryz.prog 130=true:=by kernel_rfl
theorem hb131:aB Tryz.prog 131=true:=by kernel_rfl
theorem hb132:aB Tryz.prog 132=true:=by kernel_rfl
theorem hb139:aB Tryz.prog 139=true:=by kernel_rfl
theorem AP:aB Tryz.prog 14=true:=by kernel_rfl
theorem hb140:aB Tryz.prog 140=true:=by kernel_rfl
theorem hb144:aB Tryz.prog 144=true:=by kernel_rfl
theorem hb147:aB Tryz.prog 147=true:=by kernel_rfl
theorem uC:aB Tryz.prog 15=true:=by kernel_rfl
theorem hb155:aB Tryz.prog 155=true:=by kernel_rfl
theorem hb16:aB Tryz.prog 16=true:=by kernel_rfl
theorem hb17:aB Tryz.prog 17=true:=by kernel_rfl
theorem Au:aB Tryz.prog 18=true:=by kernel_rfl
theorem hb184:aB Tryz.prog 184=true:=by kernel_rfl
theorem zZ:aB Tryz.prog 19=true:=by kernel_rfl
theorem hb20:aB Tryz.prog 20=true:=by kernel_rfl
theorem Ak:aB Tryz.prog 21=true:=by kernel_rfl
theorem hb214:aB Tryz.prog 214=true:=by kernel_rfl
theorem hb215:aB Tryz.prog 215=true:=by kernel_rfl
theorem hb22:aB Tryz.prog 22=true:=by kernel_rfl
theorem Br:aB Tryz.prog 23=true:=by kernel_rfl
theorem EP:aB Tryz.prog 24=true:=by kernel_rfl
theorem hb25:aB Tryz.prog 25=true:=by kernel_rfl
theorem hb26:aB Tryz.prog 26=true:=by kernel_rfl
theorem hb27:aB Tryz.prog 27=true:=by kernel_rfl
theorem hb28:aB Tryz.prog 28=true:=by kernel_rfl
theorem AY:aB Tryz.prog 30=true:=by kernel_rfl
theorem hb39:aB Tryz.prog 39=true:=by kernel_rfl
theorem hb42:aB Tryz.prog 42=true:=by kernel_rfl
theorem hb57:aB Tryz.prog 57=true:=by kernel_rfl
theorem hb58:aB Tryz.prog 58=true:=by kernel_rfl
theorem hb59:aB Tryz.prog 59=true:=by kernel_rfl
theorem hb60:aB Tryz.prog 60=true:=by kernel_rfl
theorem hb61:aB Tryz.prog 61=true:=by kernel_rfl
theorem hb62:aB Tryz.prog 62=true:=by kernel_rfl
theorem hb63:aB Tryz.prog 63=true:=by kernel_rfl
theorem hb64:aB Tryz.prog 64=true:=by kernel_rfl
theorem Bl:aB Tryz.prog 65=true:=by kernel_rfl
theorem hb66:aB Tryz.prog 66=true:=by kernel_rfl
theorem hb67:aB Tryz.prog 67=true:=by kernel_rfl
theorem hb68:aB Tryz.prog 68=true:=by kernel_rfl
theorem hb69:aB Tryz.prog 69=true:=by kernel_rfl
theorem hb70:aB Tryz.prog 70=true:=by kernel_rfl
theorem hb71:aB Tryz.prog 71=true:=by kernel_rfl
theorem hb72:aB Tryz.prog 72=true:=by kernel_rfl
theorem hb73:aB Tryz.prog 73=true:=by kernel_rfl
theorem hb74:aB Tryz.prog 74=true:=by kernel_rfl
theorem hb75:aB Tryz.prog 75=true:=by kernel_rfl
theorem hb76:aB Tryz.prog 76=true:=by kernel_rfl
theorem hb77:aB Tryz.prog 77=true:=by kernel_rfl
theorem hb8:aB Tryz.prog 8=true:=by kernel_rfl
theorem hb80:aB Tryz.prog 80=true:=by kernel_rfl
theorem hb83:aB Tryz.prog 83=true:=by kernel_rfl
theorem hb84:aB Tryz.prog 84=true:=by kernel_rfl
theorem hb86:aB Tryz.prog 86=true:=by kernel_rfl
theorem hb9:aB Tryz.prog 9=true:=by kernel_rfl
theorem hb90:aB Tryz.prog 90=true:=by kernel_rfl
theorem nb180:aB Tryz.prog 180=false:=by kernel_rfl
theorem nb189:aB Tryz.prog 189=false:=by kernel_rfl
theorem p8:eX Tryz.prog 101 0=some (0,1):=by kernel_rfl
theorem rV:eX Tryz.prog 101 1=some (1,1):=by kernel_rfl
theorem qX:eX Tryz.prog 101 2=some (2,1):=by kernel_rfl
theorem mG:eX Tryz.prog 179 0=some (0,1):=by kernel_rfl
theorem nT:eX Tryz.prog 179 1=some (1,1):=by kernel_rfl
theorem yR:eX Tryz.prog 25 0=some (0,1):=by kernel_rfl
theorem vK:eX Tryz.prog 25 1=some (1,1):=by kernel_rfl
theorem kU:eX Tryz.prog 43 0=some (0,1):=by kernel_rfl
theorem sj:eX Tryz.prog 43 1=some (1,1):=by kernel_rfl
theorem nP:eX Tryz.prog 43 2=some (2,1):=by kernel_rfl
theorem wP:eX Tryz.prog 43 3=some (3,1):=by kernel_rfl
theorem ww:eX Tryz.prog 43 4=some (4,1):=by kernel_rfl
theorem jH:eX Tryz.prog 43 5=some (5,1):=by kernel_rfl
theorem xE:szT Tryz.prog 101=some 3:=by kernel_rfl
theorem xL:szT Tryz.prog 179=some 2:=by kernel_rfl
theorem sz22:szT Tryz.prog 22=some 1:=by kernel_rfl
theorem sz28:szT Tryz.prog 28=some 1:=by kernel_rfl
theorem sz3:szT Tryz.prog 3=some 1:=by kernel_rfl
theorem gP:szT Tryz.prog 43=some 6:=by kernel_rfl
theorem sz5:szT Tryz.prog 5=some 1:=by kernel_rfl
theorem sz9:szT Tryz.prog 9=some 1:=by kernel_rfl
theorem EQ:(Tryz.prog).underlying 151=some (.slice 179):=by kernel_rfl
theorem DK:(Tryz.prog).underlying 158=some (.int .u64):=by kernel_rfl
theorem CK:(Tryz.prog).underlying 22=some (.slice 3):=by kernel_rfl
theorem rR:(Tryz.prog).underlying 26=some (.slice 43):=by kernel_rfl
theorem un3:(Tryz.prog).underlying 3=some (.int .i64):=by kernel_rfl
theorem kM:(Tryz.prog).underlying 34=some (.slice 9):=by kernel_rfl
theorem un4:(Tryz.prog).underlying 4=some .bool:=by kernel_rfl
theorem un5:(Tryz.prog).underlying 5=some (.int .u8):=by kernel_rfl
theorem un74:(Tryz.prog).underlying 74=some (.slice 101):=by kernel_rfl
theorem un9:(Tryz.prog).underlying 9=some .string:=by kernel_rfl
theorem un90:(Tryz.prog).underlying 90=some (.slice 28):=by kernel_rfl
theorem EH:(Tryz.prog).underlying 91=some (.int .u64):=by kernel_rfl
theorem un92:(Tryz.prog).underlying 92=some (.slice 5):=by kernel_rfl
theorem z101:zeroCells Tryz.prog 101=some [.d (.str ⟨#[]⟩),.d (.int .i64 0),.d (.int .i64 0)]:=by kernel_rfl
theorem z179:zeroCells Tryz.prog 179=some [.d (.int .i64 0),.d (.int .i64 0)]:=by kernel_rfl
theorem z197:zeroCells Tryz.prog 197=some [.d (.int .u8 0),.d (.int .u8 0),.d (.int .u8 0),.d (.int .u8 0),.d (.int .u8 0),.d (.int .u8 0),.d (.int .u8 0),.d (.int .u8 0),.d (.int .u8 0),.d (.int .u8 0),.d (.int .u8 0),.d (.int .u8 0),.d (.int .u8 0),.d (.int .u8 0),.d (.int .u8 0),.d (.int .u8 0),.d (.int .u8 0),.d (.int .u8 0),.d (.int .u8 0),.d (.int .u8 0),.d (.int .u8 0),.d (.int .u8 0),.d (.int .u8 0),.d (.int .u8 0)]:=by kernel_rfl
theorem z223:zeroCells Tryz.prog 223=some [.d (.int .u8 0),.d (.int .u8 0),.d (.int .u8 0),.d (.int .u8 0),.d (.int .u8 0),.d (.int .u8 0),.d (.int .u8 0),.d (.int .u8 0),.d (.int .u8 0),.d (.int .u8 0),.d (.int .u8 0),.d (.int .u8 0),.d (.int .u8 0),.d (.int .u8 0),.d (.int .u8 0),.d (.int .u8 0),.d (.int .u8 0),.d (.int .u8 0),.d (.int .u8 0),.d (.int .u8 0),.d (.int .u8 0),.d (.int .u8 0),.d (.int .u8 0),.d (.int .u8 0),.d (.int .u8 0),.d (.int .u8 0),.d (.int .u8 0),.d (.int .u8 0),.d (.int .u8 0),.d (.int .u8 0),.d (.int .u8 0),.d (.int .u8 0),.d (.int .u8 0),.d (.int .u8 0),.d (.int .u8 0),.d (.int .u8 0),.d (.int .u8 0),.d (.int .u8 0),.d (.int .u8 0),.d (.int .u8 0),.d (.int .u8 0),.d (.int .u8 0),.d (.int .u8 0),.d (.int .u8 0),.d (.int .u8 0),.d (.int .u8 0),.d (.int .u8 0),.d (.int .u8 0),.d (.int .u8 0),.d (.int .u8 0),.d (.int .u8 0),.d (.int .u8 0),.d (.int .u8 0),.d (.int .u8 0),.d (.int .u8 0),.d (.int .u8 0),.d (.int .u8 0),.d (.int .u8 0),.d (.int .u8 0),.d (.int .u8 0),.d (.int .u8 0),.d (.int .u8 0),.d (.int .u8 0),.d (.int .u8 0),.d (.int .u8 0)]:=by kernel_rfl
theorem z43:zeroCells Tryz.prog 43=some [.d (.str ⟨#[]⟩),.d (.str ⟨#[]⟩),.d (.int .i64 0),.d (.int .i64 0),.d (.int .i64 0),.d (.str ⟨#[]⟩)]:=by kernel_rfl
theorem z9:zeroCells Tryz.prog 9=some [.d (.str ⟨#[]⟩)]:=by kernel_rfl
theorem AX : ∀ w, Go.Eng.vP w → Go.Lib.TabIs Go.Proofs.Tryz.prog w "internal/strconv.uint64pow10" .u64 Go.Lib.pow10Tab := fun _ h => h.1
theorem laid_db : ∀ w, Go.Eng.vP w → Go.Lib.TabIs Go.Proofs.Tryz.prog w "math/bits.deBruijn64tab" .u8 (Go.Lib.deBruijn64tab.map (fun (n : Nat) => (n : Int))) := fun _ h => h.2
theorem db_g : Tryz.prog.globalNamed "math/bits.deBruijn64tab" = some 7 := by kernel_rfl
end Go.Proofs.YtdenjndllgahgaaGreatDoor.Law

