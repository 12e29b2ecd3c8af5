/-
  Closed facts on the types and functions of the program.
-/
import Derived.Test.YthcdokkcamcnmabProg
import Derived.Test.YthcdokkcamcnmabEng5
open Go Go.Eng Go.Proofs
namespace Go.Proofs.Ythcdokkcamcnmab.Law
set_option maxRecDepth 100000
set_option linter.unusedVariables false
set_option maxHeartbeats 1000000
theorem ag121:isAggT Try.prog 121=true:=by kernel_rfl
theorem ag22:isAggT Try.prog 22=false:=by kernel_rfl
theorem ag26:isAggT Try.prog 26=false:=by kernel_rfl
theorem ag3:isAggT Try.prog 3=false:=by kernel_rfl
theorem ag31:isAggT Try.prog 31=true:=by kernel_rfl
theorem ag35:isAggT Try.prog 35=false:=by kernel_rfl
theorem ag4:isAggT Try.prog 4=false:=by kernel_rfl
theorem ag55:isAggT Try.prog 55=true:=by kernel_rfl
theorem ag59:isAggT Try.prog 59=true:=by kernel_rfl
theorem ag65:isAggT Try.prog 65=true:=by kernel_rfl
theorem ag88:isAggT Try.prog 88=true:=by kernel_rfl
theorem ag9:isAggT Try.prog 9=false:=by kernel_rfl
theorem by121:bytesT Try.prog 121=16:=by kernel_rfl
theorem by3:bytesT Try.prog 3=8:=by kernel_rfl
theorem by31:bytesT Try.prog 31=16:=by kernel_rfl
theorem by4:bytesT Try.prog 4=1:=by kernel_rfl
theorem by55:bytesT Try.prog 55=56:=by kernel_rfl
theorem by59:bytesT Try.prog 59=16:=by kernel_rfl
theorem by65:bytesT Try.prog 65=48:=by kernel_rfl
theorem el111:elemT Try.prog 111=some 121:=by kernel_rfl
theorem el22:elemT Try.prog 22=some 3:=by kernel_rfl
theorem el26:elemT Try.prog 26=some 65:=by kernel_rfl
theorem el34:elemT Try.prog 34=some 55:=by kernel_rfl
theorem el38:elemT Try.prog 38=some 31:=by kernel_rfl
theorem el41:elemT Try.prog 41=some 59:=by kernel_rfl
theorem el75:elemT Try.prog 75=some 4:=by kernel_rfl
theorem es111:(elemT Try.prog 111).bind (szT Try.prog)=some 2:=by kernel_rfl
theorem es22:(elemT Try.prog 22).bind (szT Try.prog)=some 1:=by kernel_rfl
theorem es26:(elemT Try.prog 26).bind (szT Try.prog)=some 4:=by kernel_rfl
theorem es34:(elemT Try.prog 34).bind (szT Try.prog)=some 5:=by kernel_rfl
theorem es38:(elemT Try.prog 38).bind (szT Try.prog)=some 2:=by kernel_rfl
theorem es41:(elemT Try.prog 41).bind (szT Try.prog)=some 2:=by kernel_rfl
theorem es67:(elemT Try.prog 67).bind (szT Try.prog)=some 1:=by kernel_rfl
theorem es75:(elemT Try.prog 75).bind (szT Try.prog)=some 1:=by kernel_rfl
theorem es77:(elemT Try.prog 77).bind (szT Try.prog)=some 1:=by kernel_rfl
theorem es89:(elemT Try.prog 89).bind (szT Try.prog)=some 3:=by kernel_rfl
theorem ez111:((elemT Try.prog 111).bind (zeroCells Try.prog)).isSome=true:=by kernel_rfl
theorem ez22:((elemT Try.prog 22).bind (zeroCells Try.prog)).isSome=true:=by kernel_rfl
theorem ez26:((elemT Try.prog 26).bind (zeroCells Try.prog)).isSome=true:=by kernel_rfl
theorem ez34:((elemT Try.prog 34).bind (zeroCells Try.prog)).isSome=true:=by kernel_rfl
theorem ez38:((elemT Try.prog 38).bind (zeroCells Try.prog)).isSome=true:=by kernel_rfl
theorem ez41:((elemT Try.prog 41).bind (zeroCells Try.prog)).isSome=true:=by kernel_rfl
theorem ez67:((elemT Try.prog 67).bind (zeroCells Try.prog)).isSome=true:=by kernel_rfl
theorem ez77:((elemT Try.prog 77).bind (zeroCells Try.prog)).isSome=true:=by kernel_rfl
theorem ez89:((elemT Try.prog 89).bind (zeroCells Try.prog)).isSome=true:=by kernel_rfl
theorem hb10:hasBody Try.prog 10=true:=by kernel_rfl
theorem hb11:hasBody Try.prog 11=true:=by kernel_rfl
theorem hb12:hasBody Try.prog 12=true:=by kernel_rfl
theorem hb13:hasBody Try.prog 13=true:=by kernel_rfl
theorem hb14:hasBody Try.prog 14=true:=by kernel_rfl
theorem hb15:hasBody Try.prog 15=true:=by kernel_rfl
theorem hb16:hasBody Try.prog 16=true:=by kernel_rfl
theorem hb17:hasBody Try.prog 17=true:=by kernel_rfl
theorem hb18:hasBody Try.prog 18=true:=by kernel_rfl
theorem hb19:hasBody Try.prog 19=true:=by kernel_rfl
theorem hb20:hasBody Try.prog 20=true:=by kernel_rfl
theorem hb21:hasBody Try.prog 21=true:=by kernel_rfl
theorem hb22:hasBody Try.prog 22=true:=by kernel_rfl
theorem hb23:hasBody Try.prog 23=true:=by kernel_rfl
theorem hb24:hasBody Try.prog 24=true:=by kernel_rfl
theorem hb25:hasBody Try.prog 25=true:=by kernel_rfl
theorem hb26:hasBody Try.prog 26=true:=by kernel_rfl
theorem hb27:hasBody Try.prog 27=true:=by kernel_rfl
theorem hb28:hasBody Try.prog 28=true:=by kernel_rfl
theorem hb29:hasBody Try.prog 29=true:=by kernel_rfl
theorem hb30:hasBody Try.prog 30=true:=by kernel_rfl
theorem hb31:hasBody Try.prog 31=true:=by kernel_rfl
theorem hb32:hasBody Try.prog 32=true:=by kernel_rfl
theorem hb33:hasBody Try.prog 33=true:=by kernel_rfl
theorem hb34:hasBody Try.prog 34=true:=by kernel_rfl
theorem hb35:hasBody Try.prog 35=true:=by kernel_rfl
theorem hb36:hasBody Try.prog 36=true:=by kernel_rfl
theorem hb37:hasBody Try.prog 37=true:=by kernel_rfl
theorem hb38:hasBody Try.prog 38=true:=by kernel_rfl
theorem hb39:hasBody Try.prog 39=true:=by kernel_rfl
theorem hb4:hasBody Try.prog 4=true:=by kernel_rfl
theorem hb40:hasBody Try.prog 40=true:=by kernel_rfl
theorem hb41:hasBody Try.prog 41=true:=by kernel_rfl
theorem hb42:hasBody Try.prog 42=true:=by kernel_rfl
theorem hb43:hasBody Try.prog 43=true:=by kernel_rfl
theorem hb44:hasBody Try.prog 44=true:=by kernel_rfl
theorem hb45:hasBody Try.prog 45=true:=by kernel_rfl
theorem hb46:hasBody Try.prog 46=true:=by kernel_rfl
theorem hb47:hasBody Try.prog 47=true:=by kernel_rfl
theorem hb48:hasBody Try.prog 48=true:=by kernel_rfl
theorem hb49:hasBody Try.prog 49=true:=by kernel_rfl
theorem hb5:hasBody Try.prog 5=true:=by kernel_rfl
theorem hb50:hasBody Try.prog 50=true:=by kernel_rfl
theorem hb51:hasBody Try.prog 51=true:=by kernel_rfl
theorem hb52:hasBody Try.prog 52=true:=by kernel_rfl
theorem hb53:hasBody Try.prog 53=true:=by kernel_rfl
theorem hb54:hasBody Try.prog 54=true:=by kernel_rfl
theorem hb55:hasBody Try.prog 55=true:=by kernel_rfl
theorem hb56:hasBody Try.prog 56=true:=by kernel_rfl
theorem hb57:hasBody Try.prog 57=true:=by kernel_rfl
theorem hb58:hasBody Try.prog 58=true:=by kernel_rfl
theorem hb59:hasBody Try.prog 59=true:=by kernel_rfl
theorem hb6:hasBody Try.prog 6=true:=by kernel_rfl
theorem hb60:hasBody Try.prog 60=true:=by kernel_rfl
theorem hb61:hasBody Try.prog 61=true:=by kernel_rfl
theorem hb62:hasBody Try.prog 62=true:=by kernel_rfl
theorem hb63:hasBody Try.prog 63=true:=by kernel_rfl
theorem hb64:hasBody Try.prog 64=true:=by kernel_rfl
theorem hb65:hasBody Try.prog 65=true:=by kernel_rfl
theorem hb66:hasBody Try.prog 66=true:=by kernel_rfl
theorem hb7:hasBody Try.prog 7=true:=by kernel_rfl
theorem hb75:hasBody Try.prog 75=true:=by kernel_rfl
theorem hb77:hasBody Try.prog 77=true:=by kernel_rfl
theorem hb78:hasBody Try.prog 78=true:=by kernel_rfl
theorem hb79:hasBody Try.prog 79=true:=by kernel_rfl
theorem hb8:hasBody Try.prog 8=true:=by kernel_rfl
theorem hb80:hasBody Try.prog 80=true:=by kernel_rfl
theorem hb81:hasBody Try.prog 81=true:=by kernel_rfl
theorem hb88:hasBody Try.prog 88=true:=by kernel_rfl
theorem hb9:hasBody Try.prog 9=true:=by kernel_rfl
theorem mt69:mapT Try.prog 69=some (55,70):=by kernel_rfl
theorem nb76:hasBody Try.prog 76=false:=by kernel_rfl
theorem nb87:hasBody Try.prog 87=false:=by kernel_rfl
theorem pl121_0:placeT Try.prog 121 0=some (0,1):=by kernel_rfl
theorem pl121_1:placeT Try.prog 121 1=some (1,1):=by kernel_rfl
theorem pl25_0:placeT Try.prog 25 0=some (0,1):=by kernel_rfl
theorem pl25_1:placeT Try.prog 25 1=some (1,1):=by kernel_rfl
theorem pl31_0:placeT Try.prog 31 0=some (0,1):=by kernel_rfl
theorem pl31_1:placeT Try.prog 31 1=some (1,1):=by kernel_rfl
theorem pl55_0:placeT Try.prog 55 0=some (0,1):=by kernel_rfl
theorem pl55_1:placeT Try.prog 55 1=some (1,1):=by kernel_rfl
theorem pl55_2:placeT Try.prog 55 2=some (2,1):=by kernel_rfl
theorem pl55_3:placeT Try.prog 55 3=some (3,1):=by kernel_rfl
theorem pl55_4:placeT Try.prog 55 4=some (4,1):=by kernel_rfl
theorem pl59_1:placeT Try.prog 59 1=some (1,1):=by kernel_rfl
theorem pl65_0:placeT Try.prog 65 0=some (0,1):=by kernel_rfl
theorem pl65_1:placeT Try.prog 65 1=some (1,1):=by kernel_rfl
theorem pl65_2:placeT Try.prog 65 2=some (2,1):=by kernel_rfl
theorem pl65_3:placeT Try.prog 65 3=some (3,1):=by kernel_rfl
theorem pl88_0:placeT Try.prog 88 0=some (0,1):=by kernel_rfl
theorem pl88_1:placeT Try.prog 88 1=some (1,1):=by kernel_rfl
theorem pl88_2:placeT Try.prog 88 2=some (2,1):=by kernel_rfl
theorem pt70:isPtT Try.prog 70=true:=by kernel_rfl
theorem sz121:szT Try.prog 121=some 2:=by kernel_rfl
theorem sz22:szT Try.prog 22=some 1:=by kernel_rfl
theorem sz26:szT Try.prog 26=some 1:=by kernel_rfl
theorem sz3:szT Try.prog 3=some 1:=by kernel_rfl
theorem sz31:szT Try.prog 31=some 2:=by kernel_rfl
theorem sz35:szT Try.prog 35=some 1:=by kernel_rfl
theorem sz4:szT Try.prog 4=some 1:=by kernel_rfl
theorem sz55:szT Try.prog 55=some 5:=by kernel_rfl
theorem sz59:szT Try.prog 59=some 2:=by kernel_rfl
theorem sz65:szT Try.prog 65=some 4:=by kernel_rfl
theorem sz88:szT Try.prog 88=some 3:=by kernel_rfl
theorem sz9:szT Try.prog 9=some 1:=by kernel_rfl
theorem un108:(Try.prog).underlying 108=some (.int .u64):=by kernel_rfl
theorem un111:(Try.prog).underlying 111=some (.slice 121):=by kernel_rfl
theorem un22:(Try.prog).underlying 22=some (.slice 3):=by kernel_rfl
theorem un26:(Try.prog).underlying 26=some (.slice 65):=by kernel_rfl
theorem un3:(Try.prog).underlying 3=some (.int .i64):=by kernel_rfl
theorem un34:(Try.prog).underlying 34=some (.slice 55):=by kernel_rfl
theorem un38:(Try.prog).underlying 38=some (.slice 31):=by kernel_rfl
theorem un41:(Try.prog).underlying 41=some (.slice 59):=by kernel_rfl
theorem un5:(Try.prog).underlying 5=some (.int .u8):=by kernel_rfl
theorem un67:(Try.prog).underlying 67=some (.slice 9):=by kernel_rfl
theorem un74:(Try.prog).underlying 74=some (.array 2 26):=by kernel_rfl
theorem un75:(Try.prog).underlying 75=some (.slice 4):=by kernel_rfl
theorem un77:(Try.prog).underlying 77=some (.slice 35):=by kernel_rfl
theorem un89:(Try.prog).underlying 89=some (.slice 88):=by kernel_rfl
theorem un9:(Try.prog).underlying 9=some .string:=by kernel_rfl
theorem un92:(Try.prog).underlying 92=some (.int .u64):=by kernel_rfl
theorem z121:zeroCells Try.prog 121=some [.d (.int .i64 0),.d (.int .i64 0)]:=by kernel_rfl
theorem z3:zeroCells Try.prog 3=some [.d (.int .i64 0)]:=by kernel_rfl
theorem z31:zeroCells Try.prog 31=some [.d (.int .i64 0),.d (.int .i64 0)]:=by kernel_rfl
theorem z4:zeroCells Try.prog 4=some [.d (.bool false)]:=by kernel_rfl
theorem z55:zeroCells Try.prog 55=some [.d (.str ⟨#[]⟩),.d (.str ⟨#[]⟩),.d (.int .i64 0),.d (.int .i64 0),.d (.int .i64 0)]:=by kernel_rfl
theorem z59:zeroCells Try.prog 59=some [.d (.int .i64 0),.d (.int .i64 0)]:=by kernel_rfl
theorem z65:zeroCells Try.prog 65=some [.d (.str ⟨#[]⟩),.d (.str ⟨#[]⟩),.d (.int .i64 0),.d (.int .i64 0)]:=by kernel_rfl
theorem z88:zeroCells Try.prog 88=some [.d (.str ⟨#[]⟩),.d (.int .i64 0),.d (.int .i64 0)]:=by kernel_rfl
end Go.Proofs.Ythcdokkcamcnmab.Law

