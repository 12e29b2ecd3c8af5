/-
  Closed facts on the types and functions of the program.
-/
import Derived.Test.YtnjnggakgeommaaGreatDoorProg
import Derived.Test.YtnjnggakgeommaaGreatDoorEng5
open Go Go.Eng Go.Proofs
namespace Go.Proofs.YtnjnggakgeommaaGreatDoor.Law
set_option maxRecDepth 100000
set_option linter.unusedVariables false
set_option maxHeartbeats 1000000
theorem pV:bI Tryz.prog 22=false:=by kernel_rfl
theorem lb_ {a b:Nat} (h:Nat.ble a b=true):a<=b:=Nat.le_of_ble_eq_true h
abbrev SL_:=List (Nat×V)
theorem ag26:bI Tryz.prog 26=false:=by kernel_rfl
theorem sK:bI Tryz.prog 28=false:=by kernel_rfl
theorem ag3:bI Tryz.prog 3=false:=by kernel_rfl
theorem ET:bI Tryz.prog 30=true:=by kernel_rfl
theorem jK:bI Tryz.prog 35=true:=by kernel_rfl
theorem ag37:bI Tryz.prog 37=false:=by kernel_rfl
theorem ag4:bI Tryz.prog 4=false:=by kernel_rfl
theorem AZ:bI Tryz.prog 49=true:=by kernel_rfl
theorem ag9:bI Tryz.prog 9=false:=by kernel_rfl
theorem by3:fQ Tryz.prog 3=8:=by kernel_rfl
theorem DX:fQ Tryz.prog 35=152:=by kernel_rfl
theorem by49:fQ Tryz.prog 49=16:=by kernel_rfl
theorem by9:fQ Tryz.prog 9=16:=by kernel_rfl
theorem Bv:bP Tryz.prog 22=some 3:=by kernel_rfl
theorem uS:bP Tryz.prog 26=some 35:=by kernel_rfl
theorem AC:bP Tryz.prog 28=some 9:=by kernel_rfl
theorem el56:bP Tryz.prog 56=some 49:=by kernel_rfl
theorem Fg:(bP Tryz.prog 140).bind (szT Tryz.prog)=some 1:=by kernel_rfl
theorem kw:(bP Tryz.prog 22).bind (szT Tryz.prog)=some 1:=by kernel_rfl
theorem lg:(bP Tryz.prog 26).bind (szT Tryz.prog)=some 13:=by kernel_rfl
theorem kv:(bP Tryz.prog 28).bind (szT Tryz.prog)=some 1:=by kernel_rfl
theorem es56:(bP Tryz.prog 56).bind (szT Tryz.prog)=some 2:=by kernel_rfl
theorem EA:(bP Tryz.prog 79).bind (szT Tryz.prog)=some 1:=by kernel_rfl
theorem es93:(bP Tryz.prog 93).bind (szT Tryz.prog)=some 1:=by kernel_rfl
theorem ez140:((bP Tryz.prog 140).bind (zeroCells Tryz.prog)).isSome=true:=by kernel_rfl
theorem rJ:((bP Tryz.prog 22).bind (zeroCells Tryz.prog)).isSome=true:=by kernel_rfl
theorem EF:((bP Tryz.prog 26).bind (zeroCells Tryz.prog)).isSome=true:=by kernel_rfl
theorem pg:((bP Tryz.prog 28).bind (zeroCells Tryz.prog)).isSome=true:=by kernel_rfl
theorem ez56:((bP Tryz.prog 56).bind (zeroCells Tryz.prog)).isSome=true:=by kernel_rfl
theorem ez79:((bP Tryz.prog 79).bind (zeroCells Tryz.prog)).isSome=true:=by kernel_rfl
theorem ez93:((bP Tryz.prog 93).bind (zeroCells Tryz.prog)).isSome=true:=by kernel_rfl
theorem hb10:aH Tryz.prog 10=true:=by kernel_rfl
theorem hb100:aH Tryz.prog 100=true:=by kernel_rfl
theorem hb101:aH Tryz.prog 101=true:=by kernel_rfl
theorem hb102:aH Tryz.prog 102=true:=by kernel_rfl
theorem hb103:aH Tryz.prog 103=true:=by kernel_rfl
theorem hb11:aH Tryz.prog 11=true:=by kernel_rfl
theorem hb12:aH Tryz.prog 12=true:=by kernel_rfl
theorem hb13:aH Tryz.prog 13=true:=by kernel_rfl
theorem hb136:aH Tryz.prog 136=true:=by kernel_rfl
theorem hb137:aH Tryz.prog 137=true:=by kernel_rfl
theorem hb138:aH Tryz.prog 138=true:=by kernel_rfl
theorem hb14:aH Tryz.prog 14=true:=by kernel_rfl
theorem hb147:aH Tryz.prog 147=true:=by kernel_rfl
theorem hb15:aH Tryz.prog 15=true:=by kernel_rfl
theorem hb152:aH Tryz.prog 152=true:=by kernel_rfl
theorem hb153:aH Tryz.prog 153=true:=by kernel_rfl
theorem hb16:aH Tryz.prog 16=true:=by kernel_rfl
theorem hb169:aH Tryz.prog 169=true:=by kernel_rfl
theorem hb17:aH Tryz.prog 17=true:=by kernel_rfl
theorem hb18:aH Tryz.prog 18=true:=by kernel_rfl
theorem hb19:aH Tryz.prog 19=true:=by kernel_rfl
theorem hb198:aH Tryz.prog 198=true:=by kernel_rfl
theorem hb20:aH Tryz.prog 20=true:=by kernel_rfl
theorem hb206:aH Tryz.prog 206=true:=by kernel_rfl
theorem hb21:aH Tryz.prog 21=true:=by kernel_rfl
theorem hb233:aH Tryz.prog 233=true:=by kernel_rfl
theorem hb249:aH Tryz.prog 249=true:=by kernel_rfl
theorem hb33:aH Tryz.prog 33=true:=by kernel_rfl
theorem zJ:aH Tryz.prog 39=true:=by kernel_rfl
theorem FE:aH Tryz.prog 40=true:=by kernel_rfl
theorem zz:aH Tryz.prog 41=true:=by kernel_rfl
theorem hb42:aH Tryz.prog 42=true:=by kernel_rfl
theorem hb43:aH Tryz.prog 43=true:=by kernel_rfl
theorem hb44:aH Tryz.prog 44=true:=by kernel_rfl
theorem hb45:aH Tryz.prog 45=true:=by kernel_rfl
theorem hb46:aH Tryz.prog 46=true:=by kernel_rfl
theorem hb47:aH Tryz.prog 47=true:=by kernel_rfl
theorem hb48:aH Tryz.prog 48=true:=by kernel_rfl
theorem hb49:aH Tryz.prog 49=true:=by kernel_rfl
theorem hb50:aH Tryz.prog 50=true:=by kernel_rfl
theorem Gs:aH Tryz.prog 51=true:=by kernel_rfl
theorem xN:aH Tryz.prog 52=true:=by kernel_rfl
theorem hb53:aH Tryz.prog 53=true:=by kernel_rfl
theorem FK:aH Tryz.prog 54=true:=by kernel_rfl
theorem yf:aH Tryz.prog 55=true:=by kernel_rfl
theorem hb56:aH Tryz.prog 56=true:=by kernel_rfl
theorem hb57:aH Tryz.prog 57=true:=by kernel_rfl
theorem hb58:aH Tryz.prog 58=true:=by kernel_rfl
theorem hb59:aH Tryz.prog 59=true:=by kernel_rfl
theorem hb6:aH Tryz.prog 6=true:=by kernel_rfl
theorem hb60:aH Tryz.prog 60=true:=by kernel_rfl
theorem hb61:aH Tryz.prog 61=true:=by kernel_rfl
theorem hb62:aH Tryz.prog 62=true:=by kernel_rfl
theorem hb63:aH Tryz.prog 63=true:=by kernel_rfl
theorem hb64:aH Tryz.prog 64=true:=by kernel_rfl
theorem z8:aH Tryz.prog 65=true:=by kernel_rfl
theorem hb7:aH Tryz.prog 7=true:=by kernel_rfl
theorem hb75:aH Tryz.prog 75=true:=by kernel_rfl
theorem hb8:aH Tryz.prog 8=true:=by kernel_rfl
theorem hb85:aH Tryz.prog 85=true:=by kernel_rfl
theorem hb86:aH Tryz.prog 86=true:=by kernel_rfl
theorem hb9:aH Tryz.prog 9=true:=by kernel_rfl
theorem hb90:aH Tryz.prog 90=true:=by kernel_rfl
theorem hb91:aH Tryz.prog 91=true:=by kernel_rfl
theorem hb92:aH Tryz.prog 92=true:=by kernel_rfl
theorem hb93:aH Tryz.prog 93=true:=by kernel_rfl
theorem hb94:aH Tryz.prog 94=true:=by kernel_rfl
theorem hb95:aH Tryz.prog 95=true:=by kernel_rfl
theorem hb96:aH Tryz.prog 96=true:=by kernel_rfl
theorem hb97:aH Tryz.prog 97=true:=by kernel_rfl
theorem hb98:aH Tryz.prog 98=true:=by kernel_rfl
theorem hb99:aH Tryz.prog 99=true:=by kernel_rfl
theorem mt81:zC Tryz.prog 81=some (9,35):=by kernel_rfl
theorem nb148:aH Tryz.prog 148=false:=by kernel_rfl
theorem nb245:aH Tryz.prog 245=false:=by kernel_rfl
theorem Af:d9 Tryz.prog 25 0=some (0,1):=by kernel_rfl
theorem xg:d9 Tryz.prog 25 1=some (1,1):=by kernel_rfl
theorem FZ:d9 Tryz.prog 30 0=some (0,1):=by kernel_rfl
theorem Fs:d9 Tryz.prog 30 1=some (1,1):=by kernel_rfl
theorem EZ:d9 Tryz.prog 30 2=some (2,1):=by kernel_rfl
theorem Gj:d9 Tryz.prog 30 3=some (3,1):=by kernel_rfl
theorem jd:d9 Tryz.prog 35 0=some (0,1):=by kernel_rfl
theorem ut:d9 Tryz.prog 35 1=some (1,1):=by kernel_rfl
theorem qI:d9 Tryz.prog 35 10=some (10,1):=by kernel_rfl
theorem iW:d9 Tryz.prog 35 11=some (11,1):=by kernel_rfl
theorem tu:d9 Tryz.prog 35 12=some (12,1):=by kernel_rfl
theorem kz:d9 Tryz.prog 35 2=some (2,1):=by kernel_rfl
theorem mZ:d9 Tryz.prog 35 3=some (3,1):=by kernel_rfl
theorem lZ:d9 Tryz.prog 35 4=some (4,1):=by kernel_rfl
theorem rE:d9 Tryz.prog 35 5=some (5,1):=by kernel_rfl
theorem rR:d9 Tryz.prog 35 6=some (6,1):=by kernel_rfl
theorem iU:d9 Tryz.prog 35 7=some (7,1):=by kernel_rfl
theorem pQ:d9 Tryz.prog 35 8=some (8,1):=by kernel_rfl
theorem rA:d9 Tryz.prog 35 9=some (9,1):=by kernel_rfl
theorem oG:d9 Tryz.prog 49 0=some (0,1):=by kernel_rfl
theorem oU:d9 Tryz.prog 49 1=some (1,1):=by kernel_rfl
theorem mK:szT Tryz.prog 22=some 1:=by kernel_rfl
theorem sz26:szT Tryz.prog 26=some 1:=by kernel_rfl
theorem o6:szT Tryz.prog 28=some 1:=by kernel_rfl
theorem sz3:szT Tryz.prog 3=some 1:=by kernel_rfl
theorem x9:szT Tryz.prog 30=some 4:=by kernel_rfl
theorem fu:szT Tryz.prog 35=some 13:=by kernel_rfl
theorem sz37:szT Tryz.prog 37=some 1:=by kernel_rfl
theorem sz4:szT Tryz.prog 4=some 1:=by kernel_rfl
theorem tV:szT Tryz.prog 49=some 2:=by kernel_rfl
theorem sz9:szT Tryz.prog 9=some 1:=by kernel_rfl
theorem un140:(Tryz.prog).underlying 140=some (.slice 26):=by kernel_rfl
theorem FD:(Tryz.prog).underlying 148=some (.int .u64):=by kernel_rfl
theorem un192:(Tryz.prog).underlying 192=some (.int .u64):=by kernel_rfl
theorem qj:(Tryz.prog).underlying 22=some (.slice 3):=by kernel_rfl
theorem nY:(Tryz.prog).underlying 26=some (.slice 35):=by kernel_rfl
theorem uN:(Tryz.prog).underlying 28=some (.slice 9):=by kernel_rfl
theorem un3:(Tryz.prog).underlying 3=some (.int .i64):=by kernel_rfl
theorem un4:(Tryz.prog).underlying 4=some .bool:=by kernel_rfl
theorem un5:(Tryz.prog).underlying 5=some (.int .u8):=by kernel_rfl
theorem un56:(Tryz.prog).underlying 56=some (.slice 49):=by kernel_rfl
theorem un80:(Tryz.prog).underlying 80=some (.array 2 26):=by kernel_rfl
theorem un9:(Tryz.prog).underlying 9=some .string:=by kernel_rfl
theorem un93:(Tryz.prog).underlying 93=some (.slice 37):=by kernel_rfl
theorem z3:zeroCells Tryz.prog 3=some [.d (.int .i64 0)]:=by kernel_rfl
theorem z30:zeroCells Tryz.prog 30=some [.d (.str ⟨#[]⟩),.d (.str ⟨#[]⟩),.d (.int .i64 0),.nil]:=by kernel_rfl
theorem z35:zeroCells Tryz.prog 35=some [.d (.str ⟨#[]⟩),.d (.str ⟨#[]⟩),.d (.int .i64 0),.d (.int .i64 0),.d (.int .i64 0),.d (.int .i64 0),.d (.int .i64 0),.nil,.d (.int .i64 0),.d (.int .i64 0),.d (.int .i64 0),.nil,.d (.bool false)]:=by kernel_rfl
theorem z49:zeroCells Tryz.prog 49=some [.d (.int .i64 0),.d (.int .i64 0)]:=by kernel_rfl
theorem z9:zeroCells Tryz.prog 9=some [.d (.str ⟨#[]⟩)]:=by kernel_rfl
theorem CV : ∀ w, Go.Eng.Be w → Go.Lib.TabIs Go.Proofs.Tryz.prog w "internal/strconv.uint64pow10" .u64 Go.Lib.pow10Tab := fun _ h => h
end Go.Proofs.YtnjnggakgeommaaGreatDoor.Law

