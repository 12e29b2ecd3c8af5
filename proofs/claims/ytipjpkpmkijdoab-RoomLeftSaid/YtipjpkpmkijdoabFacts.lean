/-
  Closed facts on the types and functions of the program.
-/
import Derived.Test.YtipjpkpmkijdoabProg
import Derived.Test.YtipjpkpmkijdoabEng5
open Go Go.Eng Go.Proofs
namespace Go.Proofs.Ytipjpkpmkijdoab.Law
set_option maxRecDepth 100000
set_option linter.unusedVariables false
set_option maxHeartbeats 1000000
theorem ag22:isAggT Try.prog 22=false:=by kernel_rfl
theorem ag28:isAggT Try.prog 28=false:=by kernel_rfl
theorem ag3:isAggT Try.prog 3=false:=by kernel_rfl
theorem ag34:isAggT Try.prog 34=true:=by kernel_rfl
theorem ag35:isAggT Try.prog 35=false:=by kernel_rfl
theorem ag37:isAggT Try.prog 37=true:=by kernel_rfl
theorem ag57:isAggT Try.prog 57=true:=by kernel_rfl
theorem ag69:isAggT Try.prog 69=true:=by kernel_rfl
theorem ag9:isAggT Try.prog 9=false:=by kernel_rfl
theorem ag96:isAggT Try.prog 96=false:=by kernel_rfl
theorem by22:bytesT Try.prog 22=24:=by kernel_rfl
theorem by3:bytesT Try.prog 3=8:=by kernel_rfl
theorem by37:bytesT Try.prog 37=96:=by kernel_rfl
theorem by57:bytesT Try.prog 57=32:=by kernel_rfl
theorem by69:bytesT Try.prog 69=64:=by kernel_rfl
theorem by9:bytesT Try.prog 9=16:=by kernel_rfl
theorem el22:elemT Try.prog 22=some 3:=by kernel_rfl
theorem el26:elemT Try.prog 26=some 69:=by kernel_rfl
theorem el27:elemT Try.prog 27=some 37:=by kernel_rfl
theorem el35:elemT Try.prog 35=some 9:=by kernel_rfl
theorem el42:elemT Try.prog 42=some 57:=by kernel_rfl
theorem el96:elemT Try.prog 96=some 22:=by kernel_rfl
theorem es22:(elemT Try.prog 22).bind (szT Try.prog)=some 1:=by kernel_rfl
theorem es26:(elemT Try.prog 26).bind (szT Try.prog)=some 5:=by kernel_rfl
theorem es27:(elemT Try.prog 27).bind (szT Try.prog)=some 8:=by kernel_rfl
theorem es35:(elemT Try.prog 35).bind (szT Try.prog)=some 1:=by kernel_rfl
theorem es42:(elemT Try.prog 42).bind (szT Try.prog)=some 2:=by kernel_rfl
theorem es74:(elemT Try.prog 74).bind (szT Try.prog)=some 1:=by kernel_rfl
theorem es84:(elemT Try.prog 84).bind (szT Try.prog)=some 1:=by kernel_rfl
theorem es96:(elemT Try.prog 96).bind (szT Try.prog)=some 1:=by kernel_rfl
theorem ez22:((elemT Try.prog 22).bind (zeroCells Try.prog)).isSome=true:=by kernel_rfl
theorem ez26:((elemT Try.prog 26).bind (zeroCells Try.prog)).isSome=true:=by kernel_rfl
theorem ez27:((elemT Try.prog 27).bind (zeroCells Try.prog)).isSome=true:=by kernel_rfl
theorem ez35:((elemT Try.prog 35).bind (zeroCells Try.prog)).isSome=true:=by kernel_rfl
theorem ez42:((elemT Try.prog 42).bind (zeroCells Try.prog)).isSome=true:=by kernel_rfl
theorem ez74:((elemT Try.prog 74).bind (zeroCells Try.prog)).isSome=true:=by kernel_rfl
theorem ez84:((elemT Try.prog 84).bind (zeroCells Try.prog)).isSome=true:=by kernel_rfl
theorem hb10:hasBody Try.prog 10=true:=by kernel_rfl
theorem hb11:hasBody Try.prog 11=true:=by kernel_rfl
theorem hb12:hasBody Try.prog 12=true:=by kernel_rfl
theorem hb13:hasBody Try.prog 13=true:=by kernel_rfl
theorem hb14:hasBody Try.prog 14=true:=by kernel_rfl
theorem hb15:hasBody Try.prog 15=true:=by kernel_rfl
theorem hb16:hasBody Try.prog 16=true:=by kernel_rfl
theorem hb17:hasBody Try.prog 17=true:=by kernel_rfl
theorem hb18:hasBody Try.prog 18=true:=by kernel_rfl
theorem hb19:hasBody Try.prog 19=true:=by kernel_rfl
theorem hb20:hasBody Try.prog 20=true:=by kernel_rfl
theorem hb21:hasBody Try.prog 21=true:=by kernel_rfl
theorem hb22:hasBody Try.prog 22=true:=by kernel_rfl
theorem hb23:hasBody Try.prog 23=true:=by kernel_rfl
theorem hb24:hasBody Try.prog 24=true:=by kernel_rfl
theorem hb25:hasBody Try.prog 25=true:=by kernel_rfl
theorem hb26:hasBody Try.prog 26=true:=by kernel_rfl
theorem hb27:hasBody Try.prog 27=true:=by kernel_rfl
theorem hb28:hasBody Try.prog 28=true:=by kernel_rfl
theorem hb29:hasBody Try.prog 29=true:=by kernel_rfl
theorem hb30:hasBody Try.prog 30=true:=by kernel_rfl
theorem hb31:hasBody Try.prog 31=true:=by kernel_rfl
theorem hb32:hasBody Try.prog 32=true:=by kernel_rfl
theorem hb33:hasBody Try.prog 33=true:=by kernel_rfl
theorem hb34:hasBody Try.prog 34=true:=by kernel_rfl
theorem hb35:hasBody Try.prog 35=true:=by kernel_rfl
theorem hb36:hasBody Try.prog 36=true:=by kernel_rfl
theorem hb37:hasBody Try.prog 37=true:=by kernel_rfl
theorem hb38:hasBody Try.prog 38=true:=by kernel_rfl
theorem hb39:hasBody Try.prog 39=true:=by kernel_rfl
theorem hb4:hasBody Try.prog 4=true:=by kernel_rfl
theorem hb40:hasBody Try.prog 40=true:=by kernel_rfl
theorem hb41:hasBody Try.prog 41=true:=by kernel_rfl
theorem hb42:hasBody Try.prog 42=true:=by kernel_rfl
theorem hb43:hasBody Try.prog 43=true:=by kernel_rfl
theorem hb44:hasBody Try.prog 44=true:=by kernel_rfl
theorem hb45:hasBody Try.prog 45=true:=by kernel_rfl
theorem hb46:hasBody Try.prog 46=true:=by kernel_rfl
theorem hb47:hasBody Try.prog 47=true:=by kernel_rfl
theorem hb48:hasBody Try.prog 48=true:=by kernel_rfl
theorem hb49:hasBody Try.prog 49=true:=by kernel_rfl
theorem hb5:hasBody Try.prog 5=true:=by kernel_rfl
theorem hb50:hasBody Try.prog 50=true:=by kernel_rfl
theorem hb51:hasBody Try.prog 51=true:=by kernel_rfl
theorem hb52:hasBody Try.prog 52=true:=by kernel_rfl
theorem hb53:hasBody Try.prog 53=true:=by kernel_rfl
theorem hb54:hasBody Try.prog 54=true:=by kernel_rfl
theorem hb55:hasBody Try.prog 55=true:=by kernel_rfl
theorem hb56:hasBody Try.prog 56=true:=by kernel_rfl
theorem hb57:hasBody Try.prog 57=true:=by kernel_rfl
theorem hb58:hasBody Try.prog 58=true:=by kernel_rfl
theorem hb59:hasBody Try.prog 59=true:=by kernel_rfl
theorem hb6:hasBody Try.prog 6=true:=by kernel_rfl
theorem hb60:hasBody Try.prog 60=true:=by kernel_rfl
theorem hb61:hasBody Try.prog 61=true:=by kernel_rfl
theorem hb62:hasBody Try.prog 62=true:=by kernel_rfl
theorem hb63:hasBody Try.prog 63=true:=by kernel_rfl
theorem hb64:hasBody Try.prog 64=true:=by kernel_rfl
theorem hb65:hasBody Try.prog 65=true:=by kernel_rfl
theorem hb66:hasBody Try.prog 66=true:=by kernel_rfl
theorem hb67:hasBody Try.prog 67=true:=by kernel_rfl
theorem hb68:hasBody Try.prog 68=true:=by kernel_rfl
theorem hb69:hasBody Try.prog 69=true:=by kernel_rfl
theorem hb7:hasBody Try.prog 7=true:=by kernel_rfl
theorem hb70:hasBody Try.prog 70=true:=by kernel_rfl
theorem hb71:hasBody Try.prog 71=true:=by kernel_rfl
theorem hb72:hasBody Try.prog 72=true:=by kernel_rfl
theorem hb73:hasBody Try.prog 73=true:=by kernel_rfl
theorem hb74:hasBody Try.prog 74=true:=by kernel_rfl
theorem hb75:hasBody Try.prog 75=true:=by kernel_rfl
theorem hb76:hasBody Try.prog 76=true:=by kernel_rfl
theorem hb77:hasBody Try.prog 77=true:=by kernel_rfl
theorem hb8:hasBody Try.prog 8=true:=by kernel_rfl
theorem hb9:hasBody Try.prog 9=true:=by kernel_rfl
theorem nb78:hasBody Try.prog 78=false:=by kernel_rfl
theorem pl25_0:placeT Try.prog 25 0=some (0,1):=by kernel_rfl
theorem pl25_1:placeT Try.prog 25 1=some (1,1):=by kernel_rfl
theorem pl34_0:placeT Try.prog 34 0=some (0,1):=by kernel_rfl
theorem pl34_1:placeT Try.prog 34 1=some (1,1):=by kernel_rfl
theorem pl37_0:placeT Try.prog 37 0=some (0,1):=by kernel_rfl
theorem pl37_1:placeT Try.prog 37 1=some (1,1):=by kernel_rfl
theorem pl37_2:placeT Try.prog 37 2=some (2,2):=by kernel_rfl
theorem pl37_3:placeT Try.prog 37 3=some (4,1):=by kernel_rfl
theorem pl37_4:placeT Try.prog 37 4=some (5,1):=by kernel_rfl
theorem pl37_5:placeT Try.prog 37 5=some (6,1):=by kernel_rfl
theorem pl37_6:placeT Try.prog 37 6=some (7,1):=by kernel_rfl
theorem pl69_0:placeT Try.prog 69 0=some (0,1):=by kernel_rfl
theorem pl69_1:placeT Try.prog 69 1=some (1,2):=by kernel_rfl
theorem pl69_2:placeT Try.prog 69 2=some (3,1):=by kernel_rfl
theorem pl69_3:placeT Try.prog 69 3=some (4,1):=by kernel_rfl
theorem pl98_0:placeT Try.prog 98 0=some (0,1):=by kernel_rfl
theorem pl98_1:placeT Try.prog 98 1=some (1,1):=by kernel_rfl
theorem sz22:szT Try.prog 22=some 1:=by kernel_rfl
theorem sz28:szT Try.prog 28=some 1:=by kernel_rfl
theorem sz3:szT Try.prog 3=some 1:=by kernel_rfl
theorem sz34:szT Try.prog 34=some 2:=by kernel_rfl
theorem sz35:szT Try.prog 35=some 1:=by kernel_rfl
theorem sz37:szT Try.prog 37=some 8:=by kernel_rfl
theorem sz57:szT Try.prog 57=some 2:=by kernel_rfl
theorem sz69:szT Try.prog 69=some 5:=by kernel_rfl
theorem sz9:szT Try.prog 9=some 1:=by kernel_rfl
theorem sz96:szT Try.prog 96=some 1:=by kernel_rfl
theorem un101:(Try.prog).underlying 101=some (.int .u64):=by kernel_rfl
theorem un22:(Try.prog).underlying 22=some (.slice 3):=by kernel_rfl
theorem un26:(Try.prog).underlying 26=some (.slice 69):=by kernel_rfl
theorem un27:(Try.prog).underlying 27=some (.slice 37):=by kernel_rfl
theorem un3:(Try.prog).underlying 3=some (.int .i64):=by kernel_rfl
theorem un35:(Try.prog).underlying 35=some (.slice 9):=by kernel_rfl
theorem un42:(Try.prog).underlying 42=some (.slice 57):=by kernel_rfl
theorem un74:(Try.prog).underlying 74=some (.slice 28):=by kernel_rfl
theorem un9:(Try.prog).underlying 9=some .string:=by kernel_rfl
theorem un96:(Try.prog).underlying 96=some (.slice 22):=by kernel_rfl
theorem z22:zeroCells Try.prog 22=some [.nil]:=by kernel_rfl
theorem z3:zeroCells Try.prog 3=some [.d (.int .i64 0)]:=by kernel_rfl
theorem z37:zeroCells Try.prog 37=some [.d (.str ⟨#[]⟩),.d (.str ⟨#[]⟩),.d (.int .i64 0),.d (.int .i64 0),.nil,.d (.int .i64 0),.d (.int .i64 0),.d (.int .i64 0)]:=by kernel_rfl
theorem z57:zeroCells Try.prog 57=some [.d (.str ⟨#[]⟩),.d (.str ⟨#[]⟩)]:=by kernel_rfl
theorem z69:zeroCells Try.prog 69=some [.d (.str ⟨#[]⟩),.d (.int .i64 0),.d (.int .i64 0),.d (.int .i64 0),.nil]:=by kernel_rfl
theorem z9:zeroCells Try.prog 9=some [.d (.str ⟨#[]⟩)]:=by kernel_rfl
end Go.Proofs.Ytipjpkpmkijdoab.Law

