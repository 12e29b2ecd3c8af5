/-
  Closed facts on the types and functions of the program.
-/
import Derived.Test.YtpmokglbipebcaaGreatDoorProg
import Derived.Test.YtpmokglbipebcaaGreatDoorEng5
open Go Go.Eng Go.Proofs
namespace Go.Proofs.YtpmokglbipebcaaGreatDoor.Law
set_option maxRecDepth 100000
set_option linter.unusedVariables false
set_option maxHeartbeats 1000000
theorem lb_ {a b:Nat} (h:Nat.ble a b=true):a<=b:=Nat.le_of_ble_eq_true h
abbrev SL_:=List (Nat×V)
theorem ag22:bL Tryz.prog 22=false:=by kernel_rfl
theorem ag26:bL Tryz.prog 26=false:=by kernel_rfl
theorem ag3:bL Tryz.prog 3=false:=by kernel_rfl
theorem uq:bL Tryz.prog 30=false:=by kernel_rfl
theorem xO:bL Tryz.prog 31=false:=by kernel_rfl
theorem iw:bL Tryz.prog 33=true:=by kernel_rfl
theorem ag36:bL Tryz.prog 36=false:=by kernel_rfl
theorem xM:bL Tryz.prog 77=true:=by kernel_rfl
theorem ag81:bL Tryz.prog 81=true:=by kernel_rfl
theorem ag9:bL Tryz.prog 9=false:=by kernel_rfl
theorem GN:gH Tryz.prog 33=128:=by kernel_rfl
theorem by77:gH Tryz.prog 77=32:=by kernel_rfl
theorem by9:gH Tryz.prog 9=16:=by kernel_rfl
theorem vZ:bX Tryz.prog 26=some 33:=by kernel_rfl
theorem Ht:bX Tryz.prog 30=some 9:=by kernel_rfl
theorem Hr:bX Tryz.prog 31=some 77:=by kernel_rfl
theorem Il:(bX Tryz.prog 110).bind (szT Tryz.prog)=some 1:=by kernel_rfl
theorem IW:(bX Tryz.prog 124).bind (szT Tryz.prog)=some 3:=by kernel_rfl
theorem wM:(bX Tryz.prog 22).bind (szT Tryz.prog)=some 1:=by kernel_rfl
theorem iU:(bX Tryz.prog 26).bind (szT Tryz.prog)=some 9:=by kernel_rfl
theorem lW:(bX Tryz.prog 30).bind (szT Tryz.prog)=some 1:=by kernel_rfl
theorem zX:(bX Tryz.prog 31).bind (szT Tryz.prog)=some 4:=by kernel_rfl
theorem es62:(bX Tryz.prog 62).bind (szT Tryz.prog)=some 1:=by kernel_rfl
theorem es73:(bX Tryz.prog 73).bind (szT Tryz.prog)=some 1:=by kernel_rfl
theorem ez110:((bX Tryz.prog 110).bind (zeroCells Tryz.prog)).isSome=true:=by kernel_rfl
theorem ez124:((bX Tryz.prog 124).bind (zeroCells Tryz.prog)).isSome=true:=by kernel_rfl
theorem BA:((bX Tryz.prog 22).bind (zeroCells Tryz.prog)).isSome=true:=by kernel_rfl
theorem Eh:((bX Tryz.prog 26).bind (zeroCells Tryz.prog)).isSome=true:=by kernel_rfl
theorem rV:((bX Tryz.prog 30).bind (zeroCells Tryz.prog)).isSome=true:=by kernel_rfl
theorem ez31:((bX Tryz.prog 31).bind (zeroCells Tryz.prog)).isSome=true:=by kernel_rfl
theorem ez62:((bX Tryz.prog 62).bind (zeroCells Tryz.prog)).isSome=true:=by kernel_rfl
theorem ez73:((bX Tryz.prog 73).bind (zeroCells Tryz.prog)).isSome=true:=by kernel_rfl
theorem zJ:aG Tryz.prog 10=true:=by kernel_rfl
theorem hb11:aG Tryz.prog 11=true:=by kernel_rfl
theorem H9:aG Tryz.prog 112=true:=by kernel_rfl
theorem hb12:aG Tryz.prog 12=true:=by kernel_rfl
theorem hb121:aG Tryz.prog 121=true:=by kernel_rfl
theorem hb122:aG Tryz.prog 122=true:=by kernel_rfl
theorem hb123:aG Tryz.prog 123=true:=by kernel_rfl
theorem hb124:aG Tryz.prog 124=true:=by kernel_rfl
theorem hb125:aG Tryz.prog 125=true:=by kernel_rfl
theorem hb126:aG Tryz.prog 126=true:=by kernel_rfl
theorem hb127:aG Tryz.prog 127=true:=by kernel_rfl
theorem hb128:aG Tryz.prog 128=true:=by kernel_rfl
theorem hb129:aG Tryz.prog 129=true:=by kernel_rfl
theorem hb13:aG Tryz.prog 13=true:=by kernel_rfl
theorem hb130:aG Tryz.prog 130=true:=by kernel_rfl
theorem hb131:aG Tryz.prog 131=true:=by kernel_rfl
theorem hb132:aG Tryz.prog 132=true:=by kernel_rfl
theorem hb133:aG Tryz.prog 133=true:=by kernel_rfl
theorem hb134:aG Tryz.prog 134=true:=by kernel_rfl
theorem hb14:aG Tryz.prog 14=true:=by kernel_rfl
theorem hb15:aG Tryz.prog 15=true:=by kernel_rfl
theorem hb16:aG Tryz.prog 16=true:=by kernel_rfl
theorem hb164:aG Tryz.prog 164=true:=by kernel_rfl
theorem hb167:aG Tryz.prog 167=true:=by kernel_rfl
theorem hb168:aG Tryz.prog 168=true:=by kernel_rfl
theorem hb17:aG Tryz.prog 17=true:=by kernel_rfl
theorem hb179:aG Tryz.prog 179=true:=by kernel_rfl
theorem hb18:aG Tryz.prog 18=true:=by kernel_rfl
theorem HY:aG Tryz.prog 19=true:=by kernel_rfl
theorem hb194:aG Tryz.prog 194=true:=by kernel_rfl
theorem GD:aG Tryz.prog 20=true:=by kernel_rfl
theorem hb30:aG Tryz.prog 30=true:=by kernel_rfl
theorem hb31:aG Tryz.prog 31=true:=by kernel_rfl
theorem Es:aG Tryz.prog 37=true:=by kernel_rfl
theorem hb38:aG Tryz.prog 38=true:=by kernel_rfl
theorem hb39:aG Tryz.prog 39=true:=by kernel_rfl
theorem hb40:aG Tryz.prog 40=true:=by kernel_rfl
theorem hb41:aG Tryz.prog 41=true:=by kernel_rfl
theorem hb42:aG Tryz.prog 42=true:=by kernel_rfl
theorem hb43:aG Tryz.prog 43=true:=by kernel_rfl
theorem hb44:aG Tryz.prog 44=true:=by kernel_rfl
theorem hb45:aG Tryz.prog 45=true:=by kernel_rfl
theorem hb46:aG Tryz.prog 46=true:=by kernel_rfl
theorem hb47:aG Tryz.prog 47=true:=by kernel_rfl
theorem hb48:aG Tryz.prog 48=true:=by kernel_rfl
theorem hb49:aG Tryz.prog 49=true:=by kernel_rfl
theorem hb50:aG Tryz.prog 50=true:=by kernel_rfl
theorem hb51:aG Tryz.prog 51=true:=by kernel_rfl
theorem hb6:aG Tryz.prog 6=true:=by kernel_rfl
theorem hb60:aG Tryz.prog 60=true:=by kernel_rfl
theorem hb65:aG Tryz.prog 65=true:=by kernel_rfl
theorem hb66:aG Tryz.prog 66=true:=by kernel_rfl
theorem hb7:aG Tryz.prog 7=true:=by kernel_rfl
theorem hb72:aG Tryz.prog 72=true:=by kernel_rfl
theorem hb73:aG Tryz.prog 73=true:=by kernel_rfl
theorem hb74:aG Tryz.prog 74=true:=by kernel_rfl
theorem hb75:aG Tryz.prog 75=true:=by kernel_rfl
theorem hb76:aG Tryz.prog 76=true:=by kernel_rfl
theorem hb77:aG Tryz.prog 77=true:=by kernel_rfl
theorem hb78:aG Tryz.prog 78=true:=by kernel_rfl
theorem hb79:aG Tryz.prog 79=true:=by kernel_rfl
theorem hb8:aG Tryz.prog 8=true:=by kernel_rfl
theorem hb80:aG Tryz.prog 80=true:=by kernel_rfl
theorem hb81:aG Tryz.prog 81=true:=by kernel_rfl
theorem hb82:aG Tryz.prog 82=true:=by kernel_rfl
theorem Bw:aG Tryz.prog 83=true:=by kernel_rfl
theorem hb84:aG Tryz.prog 84=true:=by kernel_rfl
theorem hb85:aG Tryz.prog 85=true:=by kernel_rfl
theorem hb86:aG Tryz.prog 86=true:=by kernel_rfl
theorem hb87:aG Tryz.prog 87=true:=by kernel_rfl
theorem BF:aG Tryz.prog 88=true:=by kernel_rfl
theorem hb89:aG Tryz.prog 89=true:=by kernel_rfl
theorem hb9:aG Tryz.prog 9=true:=by kernel_rfl
theorem hb90:aG Tryz.prog 90=true:=by kernel_rfl
theorem hb91:aG Tryz.prog 91=true:=by kernel_rfl
theorem hb92:aG Tryz.prog 92=true:=by kernel_rfl
theorem hb93:aG Tryz.prog 93=true:=by kernel_rfl
theorem hb94:aG Tryz.prog 94=true:=by kernel_rfl
theorem hb95:aG Tryz.prog 95=true:=by kernel_rfl
theorem hb96:aG Tryz.prog 96=true:=by kernel_rfl
theorem mt65:zS Tryz.prog 65=some (9,33):=by kernel_rfl
theorem mt72:zS Tryz.prog 72=some (9,4):=by kernel_rfl
theorem nb163:aG Tryz.prog 163=false:=by kernel_rfl
theorem nb217:aG Tryz.prog 217=false:=by kernel_rfl
theorem Bb:fJ Tryz.prog 25 0=some (0,1):=by kernel_rfl
theorem x8:fJ Tryz.prog 25 1=some (1,1):=by kernel_rfl
theorem ic:fJ Tryz.prog 33 0=some (0,1):=by kernel_rfl
theorem vT:fJ Tryz.prog 33 1=some (1,1):=by kernel_rfl
theorem l5:fJ Tryz.prog 33 2=some (2,1):=by kernel_rfl
theorem jB:fJ Tryz.prog 33 3=some (3,1):=by kernel_rfl
theorem iG:fJ Tryz.prog 33 4=some (4,1):=by kernel_rfl
theorem uA:fJ Tryz.prog 33 5=some (5,1):=by kernel_rfl
theorem uG:fJ Tryz.prog 33 6=some (6,1):=by kernel_rfl
theorem kY:fJ Tryz.prog 33 7=some (7,1):=by kernel_rfl
theorem ni:fJ Tryz.prog 33 8=some (8,1):=by kernel_rfl
theorem rR:fJ Tryz.prog 77 0=some (0,1):=by kernel_rfl
theorem rC:fJ Tryz.prog 77 1=some (1,1):=by kernel_rfl
theorem yY:fJ Tryz.prog 77 2=some (2,1):=by kernel_rfl
theorem wo:fJ Tryz.prog 77 3=some (3,1):=by kernel_rfl
theorem Fu:fJ Tryz.prog 81 0=some (0,1):=by kernel_rfl
theorem EO:fJ Tryz.prog 81 1=some (1,1):=by kernel_rfl
theorem Ex:fJ Tryz.prog 81 2=some (2,1):=by kernel_rfl
theorem sz22:szT Tryz.prog 22=some 1:=by kernel_rfl
theorem sz26:szT Tryz.prog 26=some 1:=by kernel_rfl
theorem sz3:szT Tryz.prog 3=some 1:=by kernel_rfl
theorem qO:szT Tryz.prog 30=some 1:=by kernel_rfl
theorem tY:szT Tryz.prog 31=some 1:=by kernel_rfl
theorem dM:szT Tryz.prog 33=some 9:=by kernel_rfl
theorem sz36:szT Tryz.prog 36=some 1:=by kernel_rfl
theorem nW:szT Tryz.prog 77=some 4:=by kernel_rfl
theorem sz81:szT Tryz.prog 81=some 3:=by kernel_rfl
theorem sz9:szT Tryz.prog 9=some 1:=by kernel_rfl
theorem un110:(Tryz.prog).underlying 110=some (.slice 26):=by kernel_rfl
theorem IX:(Tryz.prog).underlying 117=some (.int .u64):=by kernel_rfl
theorem un124:(Tryz.prog).underlying 124=some (.slice 81):=by kernel_rfl
theorem un152:(Tryz.prog).underlying 152=some (.int .u64):=by kernel_rfl
theorem Gx:(Tryz.prog).underlying 22=some (.slice 3):=by kernel_rfl
theorem lK:(Tryz.prog).underlying 26=some (.slice 33):=by kernel_rfl
theorem un3:(Tryz.prog).underlying 3=some (.int .i64):=by kernel_rfl
theorem sP:(Tryz.prog).underlying 30=some (.slice 9):=by kernel_rfl
theorem xE:(Tryz.prog).underlying 31=some (.slice 77):=by kernel_rfl
theorem un4:(Tryz.prog).underlying 4=some .bool:=by kernel_rfl
theorem un5:(Tryz.prog).underlying 5=some (.int .u8):=by kernel_rfl
theorem un64:(Tryz.prog).underlying 64=some (.array 2 26):=by kernel_rfl
theorem un73:(Tryz.prog).underlying 73=some (.slice 36):=by kernel_rfl
theorem un9:(Tryz.prog).underlying 9=some .string:=by kernel_rfl
theorem z33:zeroCells Tryz.prog 33=some [.d (.str ⟨#[]⟩),.d (.str ⟨#[]⟩),.d (.int .i64 0),.nil,.d (.int .i64 0),.d (.int .i64 0),.d (.int .i64 0),.nil,.d (.str ⟨#[]⟩)]:=by kernel_rfl
theorem z77:zeroCells Tryz.prog 77=some [.d (.int .i64 0),.d (.int .i64 0),.d (.int .i64 0),.d (.int .i64 0)]:=by kernel_rfl
theorem z81:zeroCells Tryz.prog 81=some [.d (.str ⟨#[]⟩),.d (.int .i64 0),.d (.int .i64 0)]:=by kernel_rfl
theorem z9:zeroCells Tryz.prog 9=some [.d (.str ⟨#[]⟩)]:=by kernel_rfl
theorem EP : ∀ w, Go.Eng.tH w → Go.Lib.TabIs Go.Proofs.Tryz.prog w "internal/strconv.uint64pow10" .u64 Go.Lib.pow10Tab := fun _ h => h.1
theorem DJ:∀w,Go.Eng.tH w->(∃m,w.cell? ⟨0,0,none⟩=some (.int .i64 m)):=λ_ h=>h.2.1
theorem G8:∀w,Go.Eng.tH w->Go.Lib.Utf8Tabs 1 2 w:=λ_ h=>h.2.2
end Go.Proofs.YtpmokglbipebcaaGreatDoor.Law

