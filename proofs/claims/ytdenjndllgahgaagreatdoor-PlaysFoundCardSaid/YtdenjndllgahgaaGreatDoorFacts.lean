/-
  Closed facts on the types and functions of the program.
-/
import Derived.Test.YtdenjndllgahgaaGreatDoorProg
import Derived.Test.YtdenjndllgahgaaGreatDoorEng5
open Go Go.Eng Go.Proofs
namespace Go.Proofs.YtdenjndllgahgaaGreatDoor.Law
set_option maxRecDepth 100000
set_option linter.unusedVariables false
set_option maxHeartbeats 1000000
theorem oW:bC Tryz.prog 101=true:=by kernel_rfl
theorem AJ:bC Tryz.prog 127=true:=by kernel_rfl
theorem Ay:bC Tryz.prog 131=true:=by kernel_rfl
theorem lb_ {a b:Nat} (h:Nat.ble a b=true):a<=b:=Nat.le_of_ble_eq_true h
abbrev SL_:=List (Nat×V)
theorem ag179:bC Tryz.prog 179=true:=by kernel_rfl
theorem ag22:bC Tryz.prog 22=false:=by kernel_rfl
theorem EJ:bC Tryz.prog 26=false:=by kernel_rfl
theorem ag28:bC Tryz.prog 28=false:=by kernel_rfl
theorem ag3:bC Tryz.prog 3=false:=by kernel_rfl
theorem tO:bC Tryz.prog 43=true:=by kernel_rfl
theorem ag5:bC Tryz.prog 5=false:=by kernel_rfl
theorem ag84:bC Tryz.prog 84=true:=by kernel_rfl
theorem ag9:bC Tryz.prog 9=false:=by kernel_rfl
theorem by101:fP Tryz.prog 101=32:=by kernel_rfl
theorem by127:fP Tryz.prog 127=16:=by kernel_rfl
theorem by131:fP Tryz.prog 131=16:=by kernel_rfl
theorem by179:fP Tryz.prog 179=16:=by kernel_rfl
theorem by3:fP Tryz.prog 3=8:=by kernel_rfl
theorem by43:fP Tryz.prog 43=72:=by kernel_rfl
theorem by84:fP Tryz.prog 84=48:=by kernel_rfl
theorem by9:fP Tryz.prog 9=16:=by kernel_rfl
theorem DR:bG Tryz.prog 123=some 127:=by kernel_rfl
theorem Ed:bG Tryz.prog 129=some 131:=by kernel_rfl
theorem DN:bG Tryz.prog 151=some 179:=by kernel_rfl
theorem yu:bG Tryz.prog 22=some 3:=by kernel_rfl
theorem el26:bG Tryz.prog 26=some 43:=by kernel_rfl
theorem el34:bG Tryz.prog 34=some 9:=by kernel_rfl
theorem Gi:bG Tryz.prog 74=some 101:=by kernel_rfl
theorem el76:bG Tryz.prog 76=some 84:=by kernel_rfl
theorem sM:(bG Tryz.prog 123).bind (szT Tryz.prog)=some 2:=by kernel_rfl
theorem rM:(bG Tryz.prog 129).bind (szT Tryz.prog)=some 2:=by kernel_rfl
theorem sw:(bG Tryz.prog 151).bind (szT Tryz.prog)=some 2:=by kernel_rfl
theorem oC:(bG Tryz.prog 22).bind (szT Tryz.prog)=some 1:=by kernel_rfl
theorem nU:(bG Tryz.prog 26).bind (szT Tryz.prog)=some 6:=by kernel_rfl
theorem uz:(bG Tryz.prog 34).bind (szT Tryz.prog)=some 1:=by kernel_rfl
theorem oN:(bG Tryz.prog 74).bind (szT Tryz.prog)=some 3:=by kernel_rfl
theorem CY:(bG Tryz.prog 76).bind (szT Tryz.prog)=some 4:=by kernel_rfl
theorem es90:(bG Tryz.prog 90).bind (szT Tryz.prog)=some 1:=by kernel_rfl
theorem es92:(bG Tryz.prog 92).bind (szT Tryz.prog)=some 1:=by kernel_rfl
theorem ez123:((bG Tryz.prog 123).bind (zeroCells Tryz.prog)).isSome=true:=by kernel_rfl
theorem ez129:((bG Tryz.prog 129).bind (zeroCells Tryz.prog)).isSome=true:=by kernel_rfl
theorem ez151:((bG Tryz.prog 151).bind (zeroCells Tryz.prog)).isSome=true:=by kernel_rfl
theorem ut:((bG Tryz.prog 22).bind (zeroCells Tryz.prog)).isSome=true:=by kernel_rfl
theorem ez26:((bG Tryz.prog 26).bind (zeroCells Tryz.prog)).isSome=true:=by kernel_rfl
theorem yo:((bG Tryz.prog 34).bind (zeroCells Tryz.prog)).isSome=true:=by kernel_rfl
theorem ez74:((bG Tryz.prog 74).bind (zeroCells Tryz.prog)).isSome=true:=by kernel_rfl
theorem ez76:((bG Tryz.prog 76).bind (zeroCells Tryz.prog)).isSome=true:=by kernel_rfl
theorem ez90:((bG Tryz.prog 90).bind (zeroCells Tryz.prog)).isSome=true:=by kernel_rfl
theorem hb10:aI Tryz.prog 10=true:=by kernel_rfl
theorem hb100:aI Tryz.prog 100=true:=by kernel_rfl
theorem hb101:aI Tryz.prog 101=true:=by kernel_rfl
theorem yG:aI Tryz.prog 102=true:=by kernel_rfl
theorem hb103:aI Tryz.prog 103=true:=by kernel_rfl
theorem hb104:aI Tryz.prog 104=true:=by kernel_rfl
theorem hb105:aI Tryz.prog 105=true:=by kernel_rfl
theorem hb106:aI Tryz.prog 106=true:=by kernel_rfl
theorem DD:aI Tryz.prog 107=true:=by kernel_rfl
theorem hb108:aI Tryz.prog 108=true:=by kernel_rfl
theorem AP:aI Tryz.prog 109=true:=by kernel_rfl
theorem hb113:aI Tryz.prog 113=true:=by kernel_rfl
theorem hb114:aI Tryz.prog 114=true:=by kernel_rfl
theorem hb117:aI Tryz.prog 117=true:=by kernel_rfl
theorem F7:aI Tryz.prog 118=true:=by kernel_rfl
theorem Eb:aI Tryz.prog 119=true:=by kernel_rfl
theorem EU:aI Tryz.prog 12=true:=by kernel_rfl
theorem hb120:aI Tryz.prog 120=true:=by kernel_rfl
theorem hb121:aI Tryz.prog 121=true:=by kernel_rfl
theorem hb123:aI Tryz.prog 123=true:=by kernel_rfl
theorem hb130:aI Tryz.prog 130=true:=by kernel_rfl
theorem hb131:aI Tryz.prog 131=true:=by kernel_rfl
theorem hb132:aI Tryz.prog 132=true:=by kernel_rfl
theorem hb133:aI Tryz.prog 133=true:=by kernel_rfl
theorem hb134:aI Tryz.prog 134=true:=by kernel_rfl
theorem hb137:aI Tryz.prog 137=true:=by kernel_rfl
theorem hb138:aI Tryz.prog 138=true:=by kernel_rfl
theorem hb139:aI Tryz.prog 139=true:=by kernel_rfl
theorem hb14:aI Tryz.prog 14=true:=by kernel_rfl
theorem hb144:aI Tryz.prog 144=true:=by kernel_rfl
theorem hb147:aI Tryz.prog 147=true:=by kernel_rfl
theorem hb155:aI Tryz.prog 155=true:=by kernel_rfl
theorem hb163:aI Tryz.prog 163=true:=by kernel_rfl
theorem hb175:aI Tryz.prog 175=true:=by kernel_rfl
theorem hb176:aI Tryz.prog 176=true:=by kernel_rfl
theorem hb177:aI Tryz.prog 177=true:=by kernel_rfl
theorem hb178:aI Tryz.prog 178=true:=by kernel_rfl
theorem hb18:aI Tryz.prog 18=true:=by kernel_rfl
theorem ET:aI Tryz.prog 19=true:=by kernel_rfl
theorem hb203:aI Tryz.prog 203=true:=by kernel_rfl
theorem Cr:aI Tryz.prog 21=true:=by kernel_rfl
theorem hb210:aI Tryz.prog 210=true:=by kernel_rfl
theorem hb23:aI Tryz.prog 23=true:=by kernel_rfl
theorem hb24:aI Tryz.prog 24=true:=by kernel_rfl
theorem hb28:aI Tryz.prog 28=true:=by kernel_rfl
theorem AV:aI Tryz.prog 30=true:=by kernel_rfl
theorem hb38:aI Tryz.prog 38=true:=by kernel_rfl
theorem hb39:aI Tryz.prog 39=true:=by kernel_rfl
theorem hb42:aI Tryz.prog 42=true:=by kernel_rfl
theorem hb52:aI Tryz.prog 52=true:=by kernel_rfl
theorem hb53:aI Tryz.prog 53=true:=by kernel_rfl
theorem hb54:aI Tryz.prog 54=true:=by kernel_rfl
theorem hb55:aI Tryz.prog 55=true:=by kernel_rfl
theorem hb56:aI Tryz.prog 56=true:=by kernel_rfl
theorem hb57:aI Tryz.prog 57=true:=by kernel_rfl
theorem GG:aI Tryz.prog 58=true:=by kernel_rfl
theorem hb62:aI Tryz.prog 62=true:=by kernel_rfl
theorem hb65:aI Tryz.prog 65=true:=by kernel_rfl
theorem hb69:aI Tryz.prog 69=true:=by kernel_rfl
theorem hb70:aI Tryz.prog 70=true:=by kernel_rfl
theorem hb71:aI Tryz.prog 71=true:=by kernel_rfl
theorem Gy:aI Tryz.prog 72=true:=by kernel_rfl
theorem hb76:aI Tryz.prog 76=true:=by kernel_rfl
theorem hb77:aI Tryz.prog 77=true:=by kernel_rfl
theorem hb8:aI Tryz.prog 8=true:=by kernel_rfl
theorem hb80:aI Tryz.prog 80=true:=by kernel_rfl
theorem hb83:aI Tryz.prog 83=true:=by kernel_rfl
theorem hb84:aI Tryz.prog 84=true:=by kernel_rfl
theorem hb86:aI Tryz.prog 86=true:=by kernel_rfl
theorem hb99:aI Tryz.prog 99=true:=by kernel_rfl
theorem nb180:aI Tryz.prog 180=false:=by kernel_rfl
theorem nb189:aI Tryz.prog 189=false:=by kernel_rfl
theorem gZ:eZ Tryz.prog 101 0=some (0,1):=by kernel_rfl
theorem gY:eZ Tryz.prog 101 1=some (1,1):=by kernel_rfl
theorem gm:eZ Tryz.prog 101 2=some (2,1):=by kernel_rfl
theorem DV:eZ Tryz.prog 127 0=some (0,1):=by kernel_rfl
theorem vw:eZ Tryz.prog 127 1=some (1,1):=by kernel_rfl
theorem Ae:eZ Tryz.prog 131 0=some (0,1):=by kernel_rfl
theorem qx:eZ Tryz.prog 131 1=some (1,1):=by kernel_rfl
theorem mW:eZ Tryz.prog 179 0=some (0,1):=by kernel_rfl
theorem oh:eZ Tryz.prog 179 1=some (1,1):=by kernel_rfl
theorem Ao:eZ Tryz.prog 25 0=some (0,1):=by kernel_rfl
theorem vX:eZ Tryz.prog 25 1=some (1,1):=by kernel_rfl
theorem iJ:eZ Tryz.prog 43 0=some (0,1):=by kernel_rfl
theorem rq:eZ Tryz.prog 43 1=some (1,1):=by kernel_rfl
theorem pO:eZ Tryz.prog 43 2=some (2,1):=by kernel_rfl
theorem ou:eZ Tryz.prog 43 3=some (3,1):=by kernel_rfl
theorem sV:eZ Tryz.prog 43 4=some (4,1):=by kernel_rfl
theorem rE:eZ Tryz.prog 43 5=some (5,1):=by kernel_rfl
theorem Gs:eZ Tryz.prog 84 0=some (0,1):=by kernel_rfl
theorem xu:eZ Tryz.prog 84 2=some (2,1):=by kernel_rfl
theorem Aj:eZ Tryz.prog 84 3=some (3,1):=by kernel_rfl
theorem iP:szT Tryz.prog 101=some 3:=by kernel_rfl
theorem qH:szT Tryz.prog 127=some 2:=by kernel_rfl
theorem qF:szT Tryz.prog 131=some 2:=by kernel_rfl
theorem yC:szT Tryz.prog 179=some 2:=by kernel_rfl
theorem sz22:szT Tryz.prog 22=some 1:=by kernel_rfl
theorem EM:szT Tryz.prog 26=some 1:=by kernel_rfl
theorem sz28:szT Tryz.prog 28=some 1:=by kernel_rfl
theorem sz3:szT Tryz.prog 3=some 1:=by kernel_rfl
theorem om:szT Tryz.prog 43=some 6:=by kernel_rfl
theorem sz5:szT Tryz.prog 5=some 1:=by kernel_rfl
theorem EA:szT Tryz.prog 84=some 4:=by kernel_rfl
theorem sz9:szT Tryz.prog 9=some 1:=by kernel_rfl
theorem un123:(Tryz.prog).underlying 123=some (.slice 127):=by kernel_rfl
theorem un129:(Tryz.prog).underlying 129=some (.slice 131):=by kernel_rfl
theorem F8:(Tryz.prog).underlying 151=some (.slice 179):=by kernel_rfl
theorem yl:(Tryz.prog).underlying 22=some (.slice 3):=by kernel_rfl
theorem tu:(Tryz.prog).underlying 26=some (.slice 43):=by kernel_rfl
theorem un34:(Tryz.prog).underlying 34=some (.slice 9):=by kernel_rfl
theorem un5:(Tryz.prog).underlying 5=some (.int .u8):=by kernel_rfl
theorem rG:(Tryz.prog).underlying 74=some (.slice 101):=by kernel_rfl
theorem F9:(Tryz.prog).underlying 76=some (.slice 84):=by kernel_rfl
theorem un9:(Tryz.prog).underlying 9=some .string:=by kernel_rfl
theorem un90:(Tryz.prog).underlying 90=some (.slice 28):=by kernel_rfl
theorem un91:(Tryz.prog).underlying 91=some (.int .u64):=by kernel_rfl
theorem un92:(Tryz.prog).underlying 92=some (.slice 5):=by kernel_rfl
theorem yc:zeroCells Tryz.prog 101=some [.d (.str ⟨#[]⟩),.d (.int .i64 0),.d (.int .i64 0)]:=by kernel_rfl
theorem z127:zeroCells Tryz.prog 127=some [.d (.int .i64 0),.d (.int .i64 0)]:=by kernel_rfl
theorem z131:zeroCells Tryz.prog 131=some [.d (.int .i64 0),.d (.int .i64 0)]:=by kernel_rfl
theorem z179:zeroCells Tryz.prog 179=some [.d (.int .i64 0),.d (.int .i64 0)]:=by kernel_rfl
theorem z3:zeroCells Tryz.prog 3=some [.d (.int .i64 0)]:=by kernel_rfl
theorem z43:zeroCells Tryz.prog 43=some [.d (.str ⟨#[]⟩),.d (.str ⟨#[]⟩),.d (.int .i64 0),.d (.int .i64 0),.d (.int .i64 0),.d (.str ⟨#[]⟩)]:=by kernel_rfl
theorem z84:zeroCells Tryz.prog 84=some [.d (.str ⟨#[]⟩),.d (.str ⟨#[]⟩),.d (.int .i64 0),.d (.int .i64 0)]:=by kernel_rfl
theorem z9:zeroCells Tryz.prog 9=some [.d (.str ⟨#[]⟩)]:=by kernel_rfl
theorem CX : ∀ w, Go.Eng.Ba w → Go.Lib.TabIs Go.Proofs.Tryz.prog w "internal/strconv.uint64pow10" .u64 Go.Lib.pow10Tab := fun _ h => h.1
end Go.Proofs.YtdenjndllgahgaaGreatDoor.Law

