/-
  Closed facts on the types and functions of the program.
-/
import Derived.Test.YtdenjndllgahgaaGreatDoorProg
import Derived.Test.YtdenjndllgahgaaGreatDoorEng5
open Go Go.Eng Go.Proofs
namespace Go.Proofs.YtdenjndllgahgaaGreatDoor.Law
set_option maxRecDepth 100000
set_option linter.unusedVariables false
set_option maxHeartbeats 1000000
theorem ab197:o5 Tryz.prog 197=some 24:=by kernel_rfl
theorem sD:o5 Tryz.prog 223=some 65:=by kernel_rfl
theorem BF:bn Tryz.prog 101=true:=by kernel_rfl
theorem lb_ {a b:Nat} (h:Nat.ble a b=true):a<=b:=Nat.le_of_ble_eq_true h
abbrev SL_:=List (Nat×V)
theorem ag179:bn Tryz.prog 179=true:=by kernel_rfl
theorem ag22:bn Tryz.prog 22=false:=by kernel_rfl
theorem ag23:bn Tryz.prog 23=false:=by kernel_rfl
theorem ag28:bn Tryz.prog 28=false:=by kernel_rfl
theorem ag3:bn Tryz.prog 3=false:=by kernel_rfl
theorem iw:bn Tryz.prog 43=true:=by kernel_rfl
theorem ag5:bn Tryz.prog 5=false:=by kernel_rfl
theorem ag9:bn Tryz.prog 9=false:=by kernel_rfl
theorem by179:fQ Tryz.prog 179=16:=by kernel_rfl
theorem by43:fQ Tryz.prog 43=72:=by kernel_rfl
theorem by9:fQ Tryz.prog 9=16:=by kernel_rfl
theorem BL:bD Tryz.prog 151=some 179:=by kernel_rfl
theorem Ae:bD Tryz.prog 26=some 43:=by kernel_rfl
theorem el34:bD Tryz.prog 34=some 9:=by kernel_rfl
theorem qR:(bD Tryz.prog 151).bind (szT Tryz.prog)=some 2:=by kernel_rfl
theorem uV:(bD Tryz.prog 22).bind (szT Tryz.prog)=some 1:=by kernel_rfl
theorem kz:(bD Tryz.prog 26).bind (szT Tryz.prog)=some 6:=by kernel_rfl
theorem uy:(bD Tryz.prog 34).bind (szT Tryz.prog)=some 1:=by kernel_rfl
theorem Cm:(bD Tryz.prog 74).bind (szT Tryz.prog)=some 3:=by kernel_rfl
theorem es90:(bD Tryz.prog 90).bind (szT Tryz.prog)=some 1:=by kernel_rfl
theorem es92:(bD Tryz.prog 92).bind (szT Tryz.prog)=some 1:=by kernel_rfl
theorem ez151:((bD Tryz.prog 151).bind (zeroCells Tryz.prog)).isSome=true:=by kernel_rfl
theorem Al:((bD Tryz.prog 22).bind (zeroCells Tryz.prog)).isSome=true:=by kernel_rfl
theorem ez26:((bD Tryz.prog 26).bind (zeroCells Tryz.prog)).isSome=true:=by kernel_rfl
theorem yc:((bD Tryz.prog 34).bind (zeroCells Tryz.prog)).isSome=true:=by kernel_rfl
theorem ez74:((bD Tryz.prog 74).bind (zeroCells Tryz.prog)).isSome=true:=by kernel_rfl
theorem ez90:((bD Tryz.prog 90).bind (zeroCells Tryz.prog)).isSome=true:=by kernel_rfl
theorem hb10:aD Tryz.prog 10=true:=by kernel_rfl
theorem hb100:aD Tryz.prog 100=true:=by kernel_rfl
theorem yZ:aD Tryz.prog 102=true:=by kernel_rfl
theorem De:aD Tryz.prog 107=true:=by kernel_rfl
theorem hb108:aD Tryz.prog 108=true:=by kernel_rfl
theorem hb109:aD Tryz.prog 109=true:=by kernel_rfl
theorem hb110:aD Tryz.prog 110=true:=by kernel_rfl
theorem hb111:aD Tryz.prog 111=true:=by kernel_rfl
theorem hb113:aD Tryz.prog 113=true:=by kernel_rfl
theorem hb114:aD Tryz.prog 114=true:=by kernel_rfl
theorem hb117:aD Tryz.prog 117=true:=by kernel_rfl
theorem hb118:aD Tryz.prog 118=true:=by kernel_rfl
theorem Cb:aD Tryz.prog 119=true:=by kernel_rfl
theorem hb12:aD Tryz.prog 12=true:=by kernel_rfl
theorem hb120:aD Tryz.prog 120=true:=by kernel_rfl
theorem hb121:aD Tryz.prog 121=true:=by kernel_rfl
theorem Bw:aD Tryz.prog 123=true:=by kernel_rfl
theorem hb130:aD Tryz.prog 130=true:=by kernel_rfl
theorem hb131:aD Tryz.prog 131=true:=by kernel_rfl
theorem hb132:aD Tryz.prog 132=true:=by kernel_rfl
theorem hb139:aD Tryz.prog 139=true:=by kernel_rfl
theorem hb14:aD Tryz.prog 14=true:=by kernel_rfl
theorem hb140:aD Tryz.prog 140=true:=by kernel_rfl
theorem hb144:aD Tryz.prog 144=true:=by kernel_rfl
theorem hb147:aD Tryz.prog 147=true:=by kernel_rfl
theorem hb155:aD Tryz.prog 155=true:=by kernel_rfl
theorem hb18:aD Tryz.prog 18=true:=by kernel_rfl
theorem hb184:aD Tryz.prog 184=true:=by kernel_rfl
theorem CR:aD Tryz.prog 19=true:=by kernel_rfl
theorem AQ:aD Tryz.prog 21=true:=by kernel_rfl
theorem hb214:aD Tryz.prog 214=true:=by kernel_rfl
theorem hb215:aD Tryz.prog 215=true:=by kernel_rfl
theorem hb23:aD Tryz.prog 23=true:=by kernel_rfl
theorem hb24:aD Tryz.prog 24=true:=by kernel_rfl
theorem hb28:aD Tryz.prog 28=true:=by kernel_rfl
theorem hb29:aD Tryz.prog 29=true:=by kernel_rfl
theorem AV:aD Tryz.prog 30=true:=by kernel_rfl
theorem hb37:aD Tryz.prog 37=true:=by kernel_rfl
theorem hb39:aD Tryz.prog 39=true:=by kernel_rfl
theorem hb40:aD Tryz.prog 40=true:=by kernel_rfl
theorem hb41:aD Tryz.prog 41=true:=by kernel_rfl
theorem hb42:aD Tryz.prog 42=true:=by kernel_rfl
theorem hb43:aD Tryz.prog 43=true:=by kernel_rfl
theorem hb44:aD Tryz.prog 44=true:=by kernel_rfl
theorem hb45:aD Tryz.prog 45=true:=by kernel_rfl
theorem hb46:aD Tryz.prog 46=true:=by kernel_rfl
theorem hb57:aD Tryz.prog 57=true:=by kernel_rfl
theorem hb58:aD Tryz.prog 58=true:=by kernel_rfl
theorem hb60:aD Tryz.prog 60=true:=by kernel_rfl
theorem hb62:aD Tryz.prog 62=true:=by kernel_rfl
theorem hb65:aD Tryz.prog 65=true:=by kernel_rfl
theorem hb69:aD Tryz.prog 69=true:=by kernel_rfl
theorem hb70:aD Tryz.prog 70=true:=by kernel_rfl
theorem hb71:aD Tryz.prog 71=true:=by kernel_rfl
theorem hb72:aD Tryz.prog 72=true:=by kernel_rfl
theorem hb76:aD Tryz.prog 76=true:=by kernel_rfl
theorem hb77:aD Tryz.prog 77=true:=by kernel_rfl
theorem hb8:aD Tryz.prog 8=true:=by kernel_rfl
theorem hb80:aD Tryz.prog 80=true:=by kernel_rfl
theorem hb82:aD Tryz.prog 82=true:=by kernel_rfl
theorem hb83:aD Tryz.prog 83=true:=by kernel_rfl
theorem hb84:aD Tryz.prog 84=true:=by kernel_rfl
theorem hb85:aD Tryz.prog 85=true:=by kernel_rfl
theorem hb86:aD Tryz.prog 86=true:=by kernel_rfl
theorem hb87:aD Tryz.prog 87=true:=by kernel_rfl
theorem hb90:aD Tryz.prog 90=true:=by kernel_rfl
theorem nb180:aD Tryz.prog 180=false:=by kernel_rfl
theorem nb189:aD Tryz.prog 189=false:=by kernel_rfl
theorem oN:eH Tryz.prog 101 0=some (0,1):=by kernel_rfl
theorem qp:eH Tryz.prog 101 1=some (1,1):=by kernel_rfl
theorem qJ:eH Tryz.prog 101 2=some (2,1):=by kernel_rfl
theorem lJ:eH Tryz.prog 179 0=some (0,1):=by kernel_rfl
theorem mO:eH Tryz.prog 179 1=some (1,1):=by kernel_rfl
theorem xD:eH Tryz.prog 25 0=some (0,1):=by kernel_rfl
theorem uG:eH Tryz.prog 25 1=some (1,1):=by kernel_rfl
theorem fZ:eH Tryz.prog 43 0=some (0,1):=by kernel_rfl
theorem rV:eH Tryz.prog 43 1=some (1,1):=by kernel_rfl
theorem iX:eH Tryz.prog 43 2=some (2,1):=by kernel_rfl
theorem vk:eH Tryz.prog 43 3=some (3,1):=by kernel_rfl
theorem uT:eH Tryz.prog 43 4=some (4,1):=by kernel_rfl
theorem mJ:eH Tryz.prog 43 5=some (5,1):=by kernel_rfl
theorem wQ:szT Tryz.prog 101=some 3:=by kernel_rfl
theorem xh:szT Tryz.prog 179=some 2:=by kernel_rfl
theorem sz22:szT Tryz.prog 22=some 1:=by kernel_rfl
theorem DK:szT Tryz.prog 23=some 1:=by kernel_rfl
theorem sz28:szT Tryz.prog 28=some 1:=by kernel_rfl
theorem sz3:szT Tryz.prog 3=some 1:=by kernel_rfl
theorem eG:szT Tryz.prog 43=some 6:=by kernel_rfl
theorem sz5:szT Tryz.prog 5=some 1:=by kernel_rfl
theorem sz9:szT Tryz.prog 9=some 1:=by kernel_rfl
theorem DC:(Tryz.prog).underlying 151=some (.slice 179):=by kernel_rfl
theorem Ej:(Tryz.prog).underlying 158=some (.int .u64):=by kernel_rfl
theorem Cw:(Tryz.prog).underlying 22=some (.slice 3):=by kernel_rfl
theorem kC:(Tryz.prog).underlying 26=some (.slice 43):=by kernel_rfl
theorem un3:(Tryz.prog).underlying 3=some (.int .i64):=by kernel_rfl
theorem un34:(Tryz.prog).underlying 34=some (.slice 9):=by kernel_rfl
theorem un5:(Tryz.prog).underlying 5=some (.int .u8):=by kernel_rfl
theorem un74:(Tryz.prog).underlying 74=some (.slice 101):=by kernel_rfl
theorem un9:(Tryz.prog).underlying 9=some .string:=by kernel_rfl
theorem un90:(Tryz.prog).underlying 90=some (.slice 28):=by kernel_rfl
theorem Et:(Tryz.prog).underlying 91=some (.int .u64):=by kernel_rfl
theorem un92:(Tryz.prog).underlying 92=some (.slice 5):=by kernel_rfl
theorem z101:zeroCells Tryz.prog 101=some [.d (.str ⟨#[]⟩),.d (.int .i64 0),.d (.int .i64 0)]:=by kernel_rfl
theorem z179:zeroCells Tryz.prog 179=some [.d (.int .i64 0),.d (.int .i64 0)]:=by kernel_rfl
theorem z197:zeroCells Tryz.prog 197=some [.d (.int .u8 0),.d (.int .u8 0),.d (.int .u8 0),.d (.int .u8 0),.d (.int .u8 0),.d (.int .u8 0),.d (.int .u8 0),.d (.int .u8 0),.d (.int .u8 0),.d (.int .u8 0),.d (.int .u8 0),.d (.int .u8 0),.d (.int .u8 0),.d (.int .u8 0),.d (.int .u8 0),.d (.int .u8 0),.d (.int .u8 0),.d (.int .u8 0),.d (.int .u8 0),.d (.int .u8 0),.d (.int .u8 0),.d (.int .u8 0),.d (.int .u8 0),.d (.int .u8 0)]:=by kernel_rfl
theorem z223:zeroCells Tryz.prog 223=some [.d (.int .u8 0),.d (.int .u8 0),.d (.int .u8 0),.d (.int .u8 0),.d (.int .u8 0),.d (.int .u8 0),.d (.int .u8 0),.d (.int .u8 0),.d (.int .u8 0),.d (.int .u8 0),.d (.int .u8 0),.d (.int .u8 0),.d (.int .u8 0),.d (.int .u8 0),.d (.int .u8 0),.d (.int .u8 0),.d (.int .u8 0),.d (.int .u8 0),.d (.int .u8 0),.d (.int .u8 0),.d (.int .u8 0),.d (.int .u8 0),.d (.int .u8 0),.d (.int .u8 0),.d (.int .u8 0),.d (.int .u8 0),.d (.int .u8 0),.d (.int .u8 0),.d (.int .u8 0),.d (.int .u8 0),.d (.int .u8 0),.d (.int .u8 0),.d (.int .u8 0),.d (.int .u8 0),.d (.int .u8 0),.d (.int .u8 0),.d (.int .u8 0),.d (.int .u8 0),.d (.int .u8 0),.d (.int .u8 0),.d (.int .u8 0),.d (.int .u8 0),.d (.int .u8 0),.d (.int .u8 0),.d (.int .u8 0),.d (.int .u8 0),.d (.int .u8 0),.d (.int .u8 0),.d (.int .u8 0),.d (.int .u8 0),.d (.int .u8 0),.d (.int .u8 0),.d (.int .u8 0),.d (.int .u8 0),.d (.int .u8 0),.d (.int .u8 0),.d (.int .u8 0),.d (.int .u8 0),.d (.int .u8 0),.d (.int .u8 0),.d (.int .u8 0),.d (.int .u8 0),.d (.int .u8 0),.d (.int .u8 0),.d (.int .u8 0)]:=by kernel_rfl
theorem z23:zeroCells Tryz.prog 23=some [.d .nilp]:=by kernel_rfl
theorem z43:zeroCells Tryz.prog 43=some [.d (.str ⟨#[]⟩),.d (.str ⟨#[]⟩),.d (.int .i64 0),.d (.int .i64 0),.d (.int .i64 0),.d (.str ⟨#[]⟩)]:=by kernel_rfl
theorem z9:zeroCells Tryz.prog 9=some [.d (.str ⟨#[]⟩)]:=by kernel_rfl
theorem AX : ∀ w, Go.Eng.vO w → Go.Lib.TabIs Go.Proofs.Tryz.prog w "internal/strconv.uint64pow10" .u64 Go.Lib.pow10Tab := fun _ h => h.1
theorem laid_db : ∀ w, Go.Eng.vO w → Go.Lib.TabIs Go.Proofs.Tryz.prog w "math/bits.deBruijn64tab" .u8 (Go.Lib.deBruijn64tab.map (fun (n : Nat) => (n : Int))) := fun _ h => h.2
theorem db_g : Tryz.prog.globalNamed "math/bits.deBruijn64tab" = some 7 := by kernel_rfl
end Go.Proofs.YtdenjndllgahgaaGreatDoor.Law

