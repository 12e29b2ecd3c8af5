/-
  Closed facts on the types and functions of the program.
-/
import Derived.Test.YtjhcehhmdmbleaaGreatProg
import Derived.Test.YtjhcehhmdmbleaaGreatEng5
open Go Go.Eng Go.Proofs
namespace Go.Proofs.YtjhcehhmdmbleaaGreat.Law
set_option maxRecDepth 100000
set_option linter.unusedVariables false
set_option maxHeartbeats 1000000
theorem ag22:isAggT Tryz.prog 22=false:=by kernel_rfl
theorem ag28:isAggT Tryz.prog 28=false:=by kernel_rfl
theorem ag3:isAggT Tryz.prog 3=false:=by kernel_rfl
theorem ag30:isAggT Tryz.prog 30=true:=by kernel_rfl
theorem ag35:isAggT Tryz.prog 35=false:=by kernel_rfl
theorem ag4:isAggT Tryz.prog 4=false:=by kernel_rfl
theorem ag53:isAggT Tryz.prog 53=false:=by kernel_rfl
theorem ag55:isAggT Tryz.prog 55=true:=by kernel_rfl
theorem ag65:isAggT Tryz.prog 65=true:=by kernel_rfl
theorem ag67:isAggT Tryz.prog 67=true:=by kernel_rfl
theorem ag9:isAggT Tryz.prog 9=false:=by kernel_rfl
theorem by3:bytesT Tryz.prog 3=8:=by kernel_rfl
theorem by55:bytesT Tryz.prog 55=152:=by kernel_rfl
theorem by65:bytesT Tryz.prog 65=16:=by kernel_rfl
theorem by67:bytesT Tryz.prog 67=24:=by kernel_rfl
theorem by71:bytesT Tryz.prog 71=32:=by kernel_rfl
theorem by9:bytesT Tryz.prog 9=16:=by kernel_rfl
theorem el22:elemT Tryz.prog 22=some 3:=by kernel_rfl
theorem el26:elemT Tryz.prog 26=some 55:=by kernel_rfl
theorem el28:elemT Tryz.prog 28=some 9:=by kernel_rfl
theorem el62:elemT Tryz.prog 62=some 67:=by kernel_rfl
theorem el68:elemT Tryz.prog 68=some 71:=by kernel_rfl
theorem el78:elemT Tryz.prog 78=some 65:=by kernel_rfl
theorem es22:(elemT Tryz.prog 22).bind (szT Tryz.prog)=some 1:=by kernel_rfl
theorem es26:(elemT Tryz.prog 26).bind (szT Tryz.prog)=some 13:=by kernel_rfl
theorem es28:(elemT Tryz.prog 28).bind (szT Tryz.prog)=some 1:=by kernel_rfl
theorem es60:(elemT Tryz.prog 60).bind (szT Tryz.prog)=some 1:=by kernel_rfl
theorem es62:(elemT Tryz.prog 62).bind (szT Tryz.prog)=some 3:=by kernel_rfl
theorem es68:(elemT Tryz.prog 68).bind (szT Tryz.prog)=some 3:=by kernel_rfl
theorem es72:(elemT Tryz.prog 72).bind (szT Tryz.prog)=some 1:=by kernel_rfl
theorem es78:(elemT Tryz.prog 78).bind (szT Tryz.prog)=some 2:=by kernel_rfl
theorem ez22:((elemT Tryz.prog 22).bind (zeroCells Tryz.prog)).isSome=true:=by kernel_rfl
theorem ez26:((elemT Tryz.prog 26).bind (zeroCells Tryz.prog)).isSome=true:=by kernel_rfl
theorem ez28:((elemT Tryz.prog 28).bind (zeroCells Tryz.prog)).isSome=true:=by kernel_rfl
theorem ez60:((elemT Tryz.prog 60).bind (zeroCells Tryz.prog)).isSome=true:=by kernel_rfl
theorem ez62:((elemT Tryz.prog 62).bind (zeroCells Tryz.prog)).isSome=true:=by kernel_rfl
theorem ez68:((elemT Tryz.prog 68).bind (zeroCells Tryz.prog)).isSome=true:=by kernel_rfl
theorem ez72:((elemT Tryz.prog 72).bind (zeroCells Tryz.prog)).isSome=true:=by kernel_rfl
theorem ez78:((elemT Tryz.prog 78).bind (zeroCells Tryz.prog)).isSome=true:=by kernel_rfl
theorem fr55_0:fieldR Tryz.prog 55 0=some (0,1,false):=by kernel_rfl
theorem fr67_0:fieldR Tryz.prog 67 0=some (0,1,false):=by kernel_rfl
theorem hb10:hasBody Tryz.prog 10=true:=by kernel_rfl
theorem hb103:hasBody Tryz.prog 103=true:=by kernel_rfl
theorem hb105:hasBody Tryz.prog 105=true:=by kernel_rfl
theorem hb106:hasBody Tryz.prog 106=true:=by kernel_rfl
theorem hb107:hasBody Tryz.prog 107=true:=by kernel_rfl
theorem hb108:hasBody Tryz.prog 108=true:=by kernel_rfl
theorem hb109:hasBody Tryz.prog 109=true:=by kernel_rfl
theorem hb11:hasBody Tryz.prog 11=true:=by kernel_rfl
theorem hb110:hasBody Tryz.prog 110=true:=by kernel_rfl
theorem hb119:hasBody Tryz.prog 119=true:=by kernel_rfl
theorem hb12:hasBody Tryz.prog 12=true:=by kernel_rfl
theorem hb120:hasBody Tryz.prog 120=true:=by kernel_rfl
theorem hb121:hasBody Tryz.prog 121=true:=by kernel_rfl
theorem hb13:hasBody Tryz.prog 13=true:=by kernel_rfl
theorem hb133:hasBody Tryz.prog 133=true:=by kernel_rfl
theorem hb137:hasBody Tryz.prog 137=true:=by kernel_rfl
theorem hb138:hasBody Tryz.prog 138=true:=by kernel_rfl
theorem hb14:hasBody Tryz.prog 14=true:=by kernel_rfl
theorem hb142:hasBody Tryz.prog 142=true:=by kernel_rfl
theorem hb15:hasBody Tryz.prog 15=true:=by kernel_rfl
theorem hb16:hasBody Tryz.prog 16=true:=by kernel_rfl
theorem hb17:hasBody Tryz.prog 17=true:=by kernel_rfl
theorem hb18:hasBody Tryz.prog 18=true:=by kernel_rfl
theorem hb19:hasBody Tryz.prog 19=true:=by kernel_rfl
theorem hb20:hasBody Tryz.prog 20=true:=by kernel_rfl
theorem hb21:hasBody Tryz.prog 21=true:=by kernel_rfl
theorem hb22:hasBody Tryz.prog 22=true:=by kernel_rfl
theorem hb23:hasBody Tryz.prog 23=true:=by kernel_rfl
theorem hb24:hasBody Tryz.prog 24=true:=by kernel_rfl
theorem hb25:hasBody Tryz.prog 25=true:=by kernel_rfl
theorem hb26:hasBody Tryz.prog 26=true:=by kernel_rfl
theorem hb27:hasBody Tryz.prog 27=true:=by kernel_rfl
theorem hb28:hasBody Tryz.prog 28=true:=by kernel_rfl
theorem hb29:hasBody Tryz.prog 29=true:=by kernel_rfl
theorem hb30:hasBody Tryz.prog 30=true:=by kernel_rfl
theorem hb31:hasBody Tryz.prog 31=true:=by kernel_rfl
theorem hb32:hasBody Tryz.prog 32=true:=by kernel_rfl
theorem hb33:hasBody Tryz.prog 33=true:=by kernel_rfl
theorem hb34:hasBody Tryz.prog 34=true:=by kernel_rfl
theorem hb35:hasBody Tryz.prog 35=true:=by kernel_rfl
theorem hb36:hasBody Tryz.prog 36=true:=by kernel_rfl
theorem hb37:hasBody Tryz.prog 37=true:=by kernel_rfl
theorem hb38:hasBody Tryz.prog 38=true:=by kernel_rfl
theorem hb39:hasBody Tryz.prog 39=true:=by kernel_rfl
theorem hb4:hasBody Tryz.prog 4=true:=by kernel_rfl
theorem hb40:hasBody Tryz.prog 40=true:=by kernel_rfl
theorem hb41:hasBody Tryz.prog 41=true:=by kernel_rfl
theorem hb42:hasBody Tryz.prog 42=true:=by kernel_rfl
theorem hb43:hasBody Tryz.prog 43=true:=by kernel_rfl
theorem hb44:hasBody Tryz.prog 44=true:=by kernel_rfl
theorem hb45:hasBody Tryz.prog 45=true:=by kernel_rfl
theorem hb46:hasBody Tryz.prog 46=true:=by kernel_rfl
theorem hb47:hasBody Tryz.prog 47=true:=by kernel_rfl
theorem hb48:hasBody Tryz.prog 48=true:=by kernel_rfl
theorem hb49:hasBody Tryz.prog 49=true:=by kernel_rfl
theorem hb5:hasBody Tryz.prog 5=true:=by kernel_rfl
theorem hb50:hasBody Tryz.prog 50=true:=by kernel_rfl
theorem hb51:hasBody Tryz.prog 51=true:=by kernel_rfl
theorem hb52:hasBody Tryz.prog 52=true:=by kernel_rfl
theorem hb53:hasBody Tryz.prog 53=true:=by kernel_rfl
theorem hb54:hasBody Tryz.prog 54=true:=by kernel_rfl
theorem hb55:hasBody Tryz.prog 55=true:=by kernel_rfl
theorem hb56:hasBody Tryz.prog 56=true:=by kernel_rfl
theorem hb57:hasBody Tryz.prog 57=true:=by kernel_rfl
theorem hb58:hasBody Tryz.prog 58=true:=by kernel_rfl
theorem hb59:hasBody Tryz.prog 59=true:=by kernel_rfl
theorem hb6:hasBody Tryz.prog 6=true:=by kernel_rfl
theorem hb60:hasBody Tryz.prog 60=true:=by kernel_rfl
theorem hb61:hasBody Tryz.prog 61=true:=by kernel_rfl
theorem hb62:hasBody Tryz.prog 62=true:=by kernel_rfl
theorem hb63:hasBody Tryz.prog 63=true:=by kernel_rfl
theorem hb64:hasBody Tryz.prog 64=true:=by kernel_rfl
theorem hb65:hasBody Tryz.prog 65=true:=by kernel_rfl
theorem hb66:hasBody Tryz.prog 66=true:=by kernel_rfl
theorem hb67:hasBody Tryz.prog 67=true:=by kernel_rfl
theorem hb68:hasBody Tryz.prog 68=true:=by kernel_rfl
theorem hb69:hasBody Tryz.prog 69=true:=by kernel_rfl
theorem hb7:hasBody Tryz.prog 7=true:=by kernel_rfl
theorem hb70:hasBody Tryz.prog 70=true:=by kernel_rfl
theorem hb71:hasBody Tryz.prog 71=true:=by kernel_rfl
theorem hb72:hasBody Tryz.prog 72=true:=by kernel_rfl
theorem hb73:hasBody Tryz.prog 73=true:=by kernel_rfl
theorem hb74:hasBody Tryz.prog 74=true:=by kernel_rfl
theorem hb75:hasBody Tryz.prog 75=true:=by kernel_rfl
theorem hb76:hasBody Tryz.prog 76=true:=by kernel_rfl
theorem hb77:hasBody Tryz.prog 77=true:=by kernel_rfl
theorem hb78:hasBody Tryz.prog 78=true:=by kernel_rfl
theorem hb79:hasBody Tryz.prog 79=true:=by kernel_rfl
theorem hb8:hasBody Tryz.prog 8=true:=by kernel_rfl
theorem hb80:hasBody Tryz.prog 80=true:=by kernel_rfl
theorem hb81:hasBody Tryz.prog 81=true:=by kernel_rfl
theorem hb82:hasBody Tryz.prog 82=true:=by kernel_rfl
theorem hb83:hasBody Tryz.prog 83=true:=by kernel_rfl
theorem hb84:hasBody Tryz.prog 84=true:=by kernel_rfl
theorem hb85:hasBody Tryz.prog 85=true:=by kernel_rfl
theorem hb86:hasBody Tryz.prog 86=true:=by kernel_rfl
theorem hb87:hasBody Tryz.prog 87=true:=by kernel_rfl
theorem hb88:hasBody Tryz.prog 88=true:=by kernel_rfl
theorem hb89:hasBody Tryz.prog 89=true:=by kernel_rfl
theorem hb9:hasBody Tryz.prog 9=true:=by kernel_rfl
theorem hb90:hasBody Tryz.prog 90=true:=by kernel_rfl
theorem hb91:hasBody Tryz.prog 91=true:=by kernel_rfl
theorem hb92:hasBody Tryz.prog 92=true:=by kernel_rfl
theorem hb93:hasBody Tryz.prog 93=true:=by kernel_rfl
theorem hb94:hasBody Tryz.prog 94=true:=by kernel_rfl
theorem nb118:hasBody Tryz.prog 118=false:=by kernel_rfl
theorem nb136:hasBody Tryz.prog 136=false:=by kernel_rfl
theorem pl25_0:placeT Tryz.prog 25 0=some (0,1):=by kernel_rfl
theorem pl25_1:placeT Tryz.prog 25 1=some (1,1):=by kernel_rfl
theorem pl30_0:placeT Tryz.prog 30 0=some (0,1):=by kernel_rfl
theorem pl30_1:placeT Tryz.prog 30 1=some (1,1):=by kernel_rfl
theorem pl30_2:placeT Tryz.prog 30 2=some (2,1):=by kernel_rfl
theorem pl30_3:placeT Tryz.prog 30 3=some (3,1):=by kernel_rfl
theorem pl55_0:placeT Tryz.prog 55 0=some (0,1):=by kernel_rfl
theorem pl55_1:placeT Tryz.prog 55 1=some (1,1):=by kernel_rfl
theorem pl55_10:placeT Tryz.prog 55 10=some (10,1):=by kernel_rfl
theorem pl55_11:placeT Tryz.prog 55 11=some (11,1):=by kernel_rfl
theorem pl55_12:placeT Tryz.prog 55 12=some (12,1):=by kernel_rfl
theorem pl55_2:placeT Tryz.prog 55 2=some (2,1):=by kernel_rfl
theorem pl55_3:placeT Tryz.prog 55 3=some (3,1):=by kernel_rfl
theorem pl55_4:placeT Tryz.prog 55 4=some (4,1):=by kernel_rfl
theorem pl55_5:placeT Tryz.prog 55 5=some (5,1):=by kernel_rfl
theorem pl55_6:placeT Tryz.prog 55 6=some (6,1):=by kernel_rfl
theorem pl55_7:placeT Tryz.prog 55 7=some (7,1):=by kernel_rfl
theorem pl55_8:placeT Tryz.prog 55 8=some (8,1):=by kernel_rfl
theorem pl55_9:placeT Tryz.prog 55 9=some (9,1):=by kernel_rfl
theorem pl65_0:placeT Tryz.prog 65 0=some (0,1):=by kernel_rfl
theorem pl65_1:placeT Tryz.prog 65 1=some (1,1):=by kernel_rfl
theorem pl67_0:placeT Tryz.prog 67 0=some (0,1):=by kernel_rfl
theorem pl67_1:placeT Tryz.prog 67 1=some (1,2):=by kernel_rfl
theorem pl71_0:placeT Tryz.prog 71 0=some (0,2):=by kernel_rfl
theorem pl71_1:placeT Tryz.prog 71 1=some (2,1):=by kernel_rfl
theorem sz22:szT Tryz.prog 22=some 1:=by kernel_rfl
theorem sz28:szT Tryz.prog 28=some 1:=by kernel_rfl
theorem sz3:szT Tryz.prog 3=some 1:=by kernel_rfl
theorem sz30:szT Tryz.prog 30=some 4:=by kernel_rfl
theorem sz35:szT Tryz.prog 35=some 1:=by kernel_rfl
theorem sz4:szT Tryz.prog 4=some 1:=by kernel_rfl
theorem sz53:szT Tryz.prog 53=some 1:=by kernel_rfl
theorem sz55:szT Tryz.prog 55=some 13:=by kernel_rfl
theorem sz65:szT Tryz.prog 65=some 2:=by kernel_rfl
theorem sz67:szT Tryz.prog 67=some 3:=by kernel_rfl
theorem sz71:szT Tryz.prog 71=some 3:=by kernel_rfl
theorem sz9:szT Tryz.prog 9=some 1:=by kernel_rfl
theorem un105:(Tryz.prog).underlying 105=some (.int .u64):=by kernel_rfl
theorem un126:(Tryz.prog).underlying 126=some (.int .u64):=by kernel_rfl
theorem un22:(Tryz.prog).underlying 22=some (.slice 3):=by kernel_rfl
theorem un26:(Tryz.prog).underlying 26=some (.slice 55):=by kernel_rfl
theorem un28:(Tryz.prog).underlying 28=some (.slice 9):=by kernel_rfl
theorem un3:(Tryz.prog).underlying 3=some (.int .i64):=by kernel_rfl
theorem un4:(Tryz.prog).underlying 4=some .bool:=by kernel_rfl
theorem un5:(Tryz.prog).underlying 5=some (.int .u8):=by kernel_rfl
theorem un62:(Tryz.prog).underlying 62=some (.slice 67):=by kernel_rfl
theorem un68:(Tryz.prog).underlying 68=some (.slice 71):=by kernel_rfl
theorem un72:(Tryz.prog).underlying 72=some (.slice 35):=by kernel_rfl
theorem un78:(Tryz.prog).underlying 78=some (.slice 65):=by kernel_rfl
theorem un9:(Tryz.prog).underlying 9=some .string:=by kernel_rfl
theorem z22:zeroCells Tryz.prog 22=some [.nil]:=by kernel_rfl
theorem z3:zeroCells Tryz.prog 3=some [.d (.int .i64 0)]:=by kernel_rfl
theorem z30:zeroCells Tryz.prog 30=some [.d (.str ⟨#[]⟩),.d (.str ⟨#[]⟩),.d (.int .i64 0),.nil]:=by kernel_rfl
theorem z55:zeroCells Tryz.prog 55=some [.d (.str ⟨#[]⟩),.d (.str ⟨#[]⟩),.d (.int .i64 0),.d (.int .i64 0),.d (.int .i64 0),.d (.int .i64 0),.d (.int .i64 0),.nil,.d (.int .i64 0),.d (.int .i64 0),.d (.int .i64 0),.nil,.d (.bool false)]:=by kernel_rfl
theorem z65:zeroCells Tryz.prog 65=some [.d (.int .i64 0),.d (.int .i64 0)]:=by kernel_rfl
theorem z67:zeroCells Tryz.prog 67=some [.d .nilp,.d (.int .i64 0),.d (.int .i64 0)]:=by kernel_rfl
theorem z71:zeroCells Tryz.prog 71=some [.d (.int .i64 0),.d (.int .i64 0),.d (.str ⟨#[]⟩)]:=by kernel_rfl
theorem z9:zeroCells Tryz.prog 9=some [.d (.str ⟨#[]⟩)]:=by kernel_rfl
end Go.Proofs.YtjhcehhmdmbleaaGreat.Law

