/-
  Closed facts on the types and functions of the program.
-/
import Derived.Test.YtjhcehhmdmbleaaGreatDoorProg
import Derived.Test.YtjhcehhmdmbleaaGreatDoorEng5
open Go Go.Eng Go.Proofs
namespace Go.Proofs.YtjhcehhmdmbleaaGreatDoor.Law
set_option maxRecDepth 100000
set_option linter.unusedVariables false
set_option maxHeartbeats 1000000
theorem fJ:dz Tryz.prog 100=true:=by kernel_rfl
theorem vN:dz Tryz.prog 111=true:=by kernel_rfl
theorem lb_ {a b:Nat} (h:Nat.ble a b=true):a<=b:=Nat.le_of_ble_eq_true h
abbrev SL_:=List (Nat×V)
theorem ag191:dz Tryz.prog 191=true:=by kernel_rfl
theorem ag22:dz Tryz.prog 22=false:=by kernel_rfl
theorem ag3:dz Tryz.prog 3=false:=by kernel_rfl
theorem ag35:dz Tryz.prog 35=false:=by kernel_rfl
theorem ag4:dz Tryz.prog 4=false:=by kernel_rfl
theorem Dn:dz Tryz.prog 45=true:=by kernel_rfl
theorem vX:dz Tryz.prog 66=true:=by kernel_rfl
theorem zT:dz Tryz.prog 79=false:=by kernel_rfl
theorem ag89:dz Tryz.prog 89=false:=by kernel_rfl
theorem ag9:dz Tryz.prog 9=false:=by kernel_rfl
theorem oh:dz Tryz.prog 91=true:=by kernel_rfl
theorem ag96:dz Tryz.prog 96=true:=by kernel_rfl
theorem EE:dz Tryz.prog 98=false:=by kernel_rfl
theorem by100:ji Tryz.prog 100=128:=by kernel_rfl
theorem by3:ji Tryz.prog 3=8:=by kernel_rfl
theorem by45:ji Tryz.prog 45=32:=by kernel_rfl
theorem by66:ji Tryz.prog 66=32:=by kernel_rfl
theorem by9:ji Tryz.prog 9=16:=by kernel_rfl
theorem by91:ji Tryz.prog 91=48:=by kernel_rfl
theorem by96:ji Tryz.prog 96=48:=by kernel_rfl
theorem el22:dH Tryz.prog 22=some 3:=by kernel_rfl
theorem el56:dH Tryz.prog 56=some 100:=by kernel_rfl
theorem el63:dH Tryz.prog 63=some 66:=by kernel_rfl
theorem J9:dH Tryz.prog 79=some 9:=by kernel_rfl
theorem Fv:dH Tryz.prog 89=some 91:=by kernel_rfl
theorem KU:dH Tryz.prog 92=some 96:=by kernel_rfl
theorem el98:dH Tryz.prog 98=some 45:=by kernel_rfl
theorem D6:(dH Tryz.prog 140).bind (szT Tryz.prog)=some 1:=by kernel_rfl
theorem es161:(dH Tryz.prog 161).bind (szT Tryz.prog)=some 1:=by kernel_rfl
theorem es196:(dH Tryz.prog 196).bind (szT Tryz.prog)=some 1:=by kernel_rfl
theorem sQ:(dH Tryz.prog 22).bind (szT Tryz.prog)=some 1:=by kernel_rfl
theorem JE:(dH Tryz.prog 253).bind (szT Tryz.prog)=some 1:=by kernel_rfl
theorem qJ:(dH Tryz.prog 56).bind (szT Tryz.prog)=some 9:=by kernel_rfl
theorem A9:(dH Tryz.prog 63).bind (szT Tryz.prog)=some 3:=by kernel_rfl
theorem jZ:(dH Tryz.prog 79).bind (szT Tryz.prog)=some 1:=by kernel_rfl
theorem qQ:(dH Tryz.prog 89).bind (szT Tryz.prog)=some 4:=by kernel_rfl
theorem Lp:(dH Tryz.prog 92).bind (szT Tryz.prog)=some 4:=by kernel_rfl
theorem Kw:(dH Tryz.prog 98).bind (szT Tryz.prog)=some 4:=by kernel_rfl
theorem F6:((dH Tryz.prog 140).bind (zeroCells Tryz.prog)).isSome=true:=by kernel_rfl
theorem ez161:((dH Tryz.prog 161).bind (zeroCells Tryz.prog)).isSome=true:=by kernel_rfl
theorem ez196:((dH Tryz.prog 196).bind (zeroCells Tryz.prog)).isSome=true:=by kernel_rfl
theorem zW:((dH Tryz.prog 22).bind (zeroCells Tryz.prog)).isSome=true:=by kernel_rfl
theorem ez253:((dH Tryz.prog 253).bind (zeroCells Tryz.prog)).isSome=true:=by kernel_rfl
theorem ez56:((dH Tryz.prog 56).bind (zeroCells Tryz.prog)).isSome=true:=by kernel_rfl
theorem ez63:((dH Tryz.prog 63).bind (zeroCells Tryz.prog)).isSome=true:=by kernel_rfl
theorem qp:((dH Tryz.prog 79).bind (zeroCells Tryz.prog)).isSome=true:=by kernel_rfl
theorem ez89:((dH Tryz.prog 89).bind (zeroCells Tryz.prog)).isSome=true:=by kernel_rfl
theorem ez92:((dH Tryz.prog 92).bind (zeroCells Tryz.prog)).isSome=true:=by kernel_rfl
theorem ez98:((dH Tryz.prog 98).bind (zeroCells Tryz.prog)).isSome=true:=by kernel_rfl
theorem LC:aH Tryz.prog 100=true:=by kernel_rfl
theorem Gl:aH Tryz.prog 101=true:=by kernel_rfl
theorem hb102:aH Tryz.prog 102=true:=by kernel_rfl
theorem Mf:aH Tryz.prog 103=true:=by kernel_rfl
theorem hb104:aH Tryz.prog 104=true:=by kernel_rfl
theorem hb105:aH Tryz.prog 105=true:=by kernel_rfl
theorem hb106:aH Tryz.prog 106=true:=by kernel_rfl
theorem JZ:aH Tryz.prog 107=true:=by kernel_rfl
theorem Ez:aH Tryz.prog 108=true:=by kernel_rfl
theorem MO:aH Tryz.prog 109=true:=by kernel_rfl
theorem hb110:aH Tryz.prog 110=true:=by kernel_rfl
theorem hb111:aH Tryz.prog 111=true:=by kernel_rfl
theorem hb112:aH Tryz.prog 112=true:=by kernel_rfl
theorem Md:aH Tryz.prog 113=true:=by kernel_rfl
theorem LV:aH Tryz.prog 114=true:=by kernel_rfl
theorem hb115:aH Tryz.prog 115=true:=by kernel_rfl
theorem hb116:aH Tryz.prog 116=true:=by kernel_rfl
theorem hb117:aH Tryz.prog 117=true:=by kernel_rfl
theorem hb118:aH Tryz.prog 118=true:=by kernel_rfl
theorem hb119:aH Tryz.prog 119=true:=by kernel_rfl
theorem hb120:aH Tryz.prog 120=true:=by kernel_rfl
theorem M8:aH Tryz.prog 121=true:=by kernel_rfl
theorem Mg:aH Tryz.prog 122=true:=by kernel_rfl
theorem Nb:aH Tryz.prog 123=true:=by kernel_rfl
theorem Eg:aH Tryz.prog 124=true:=by kernel_rfl
theorem EA:aH Tryz.prog 125=true:=by kernel_rfl
theorem hb126:aH Tryz.prog 126=true:=by kernel_rfl
theorem hb127:aH Tryz.prog 127=true:=by kernel_rfl
theorem hb128:aH Tryz.prog 128=true:=by kernel_rfl
theorem hb129:aH Tryz.prog 129=true:=by kernel_rfl
theorem hb130:aH Tryz.prog 130=true:=by kernel_rfl
theorem hb131:aH Tryz.prog 131=true:=by kernel_rfl
theorem hb132:aH Tryz.prog 132=true:=by kernel_rfl
theorem Ls:aH Tryz.prog 133=true:=by kernel_rfl
theorem hb134:aH Tryz.prog 134=true:=by kernel_rfl
theorem hb135:aH Tryz.prog 135=true:=by kernel_rfl
theorem hb136:aH Tryz.prog 136=true:=by kernel_rfl
theorem hb137:aH Tryz.prog 137=true:=by kernel_rfl
theorem hb138:aH Tryz.prog 138=true:=by kernel_rfl
theorem hb139:aH Tryz.prog 139=true:=by kernel_rfl
theorem hb141:aH Tryz.prog 141=true:=by kernel_rfl
theorem L8:aH Tryz.prog 159=true:=by kernel_rfl
theorem hb160:aH Tryz.prog 160=true:=by kernel_rfl
theorem hb161:aH Tryz.prog 161=true:=by kernel_rfl
theorem hb162:aH Tryz.prog 162=true:=by kernel_rfl
theorem hb164:aH Tryz.prog 164=true:=by kernel_rfl
theorem hb165:aH Tryz.prog 165=true:=by kernel_rfl
theorem hb167:aH Tryz.prog 167=true:=by kernel_rfl
theorem hb178:aH Tryz.prog 178=true:=by kernel_rfl
theorem hb179:aH Tryz.prog 179=true:=by kernel_rfl
theorem hb18:aH Tryz.prog 18=true:=by kernel_rfl
theorem hb181:aH Tryz.prog 181=true:=by kernel_rfl
theorem hb182:aH Tryz.prog 182=true:=by kernel_rfl
theorem hb183:aH Tryz.prog 183=true:=by kernel_rfl
theorem hb184:aH Tryz.prog 184=true:=by kernel_rfl
theorem hb186:aH Tryz.prog 186=true:=by kernel_rfl
theorem hb187:aH Tryz.prog 187=true:=by kernel_rfl
theorem hb188:aH Tryz.prog 188=true:=by kernel_rfl
theorem hb189:aH Tryz.prog 189=true:=by kernel_rfl
theorem GG:aH Tryz.prog 19=true:=by kernel_rfl
theorem hb190:aH Tryz.prog 190=true:=by kernel_rfl
theorem hb191:aH Tryz.prog 191=true:=by kernel_rfl
theorem hb192:aH Tryz.prog 192=true:=by kernel_rfl
theorem Ff:aH Tryz.prog 20=true:=by kernel_rfl
theorem hb205:aH Tryz.prog 205=true:=by kernel_rfl
theorem hb206:aH Tryz.prog 206=true:=by kernel_rfl
theorem hb208:aH Tryz.prog 208=true:=by kernel_rfl
theorem hb209:aH Tryz.prog 209=true:=by kernel_rfl
theorem EG:aH Tryz.prog 21=true:=by kernel_rfl
theorem hb210:aH Tryz.prog 210=true:=by kernel_rfl
theorem hb211:aH Tryz.prog 211=true:=by kernel_rfl
theorem hb212:aH Tryz.prog 212=true:=by kernel_rfl
theorem hb213:aH Tryz.prog 213=true:=by kernel_rfl
theorem hb22:aH Tryz.prog 22=true:=by kernel_rfl
theorem hb224:aH Tryz.prog 224=true:=by kernel_rfl
theorem hb231:aH Tryz.prog 231=true:=by kernel_rfl
theorem hb239:aH Tryz.prog 239=true:=by kernel_rfl
theorem MP:aH Tryz.prog 24=true:=by kernel_rfl
theorem hb249:aH Tryz.prog 249=true:=by kernel_rfl
theorem hb25:aH Tryz.prog 25=true:=by kernel_rfl
theorem hb258:aH Tryz.prog 258=true:=by kernel_rfl
theorem hb259:aH Tryz.prog 259=true:=by kernel_rfl
theorem hb26:aH Tryz.prog 26=true:=by kernel_rfl
theorem hb260:aH Tryz.prog 260=true:=by kernel_rfl
theorem hb261:aH Tryz.prog 261=true:=by kernel_rfl
theorem hb262:aH Tryz.prog 262=true:=by kernel_rfl
theorem hb268:aH Tryz.prog 268=true:=by kernel_rfl
theorem hb269:aH Tryz.prog 269=true:=by kernel_rfl
theorem hb272:aH Tryz.prog 272=true:=by kernel_rfl
theorem hb273:aH Tryz.prog 273=true:=by kernel_rfl
theorem hb280:aH Tryz.prog 280=true:=by kernel_rfl
theorem hb30:aH Tryz.prog 30=true:=by kernel_rfl
theorem AZ:aH Tryz.prog 34=true:=by kernel_rfl
theorem hb38:aH Tryz.prog 38=true:=by kernel_rfl
theorem hb39:aH Tryz.prog 39=true:=by kernel_rfl
theorem hb40:aH Tryz.prog 40=true:=by kernel_rfl
theorem hb41:aH Tryz.prog 41=true:=by kernel_rfl
theorem hb45:aH Tryz.prog 45=true:=by kernel_rfl
theorem hb46:aH Tryz.prog 46=true:=by kernel_rfl
theorem DF:aH Tryz.prog 47=true:=by kernel_rfl
theorem hb48:aH Tryz.prog 48=true:=by kernel_rfl
theorem hb49:aH Tryz.prog 49=true:=by kernel_rfl
theorem hb50:aH Tryz.prog 50=true:=by kernel_rfl
theorem hb51:aH Tryz.prog 51=true:=by kernel_rfl
theorem hb52:aH Tryz.prog 52=true:=by kernel_rfl
theorem MF:aH Tryz.prog 53=true:=by kernel_rfl
theorem hb54:aH Tryz.prog 54=true:=by kernel_rfl
theorem hb55:aH Tryz.prog 55=true:=by kernel_rfl
theorem hb56:aH Tryz.prog 56=true:=by kernel_rfl
theorem hb57:aH Tryz.prog 57=true:=by kernel_rfl
theorem hb58:aH Tryz.prog 58=true:=by kernel_rfl
theorem hb59:aH Tryz.prog 59=true:=by kernel_rfl
theorem hb60:aH Tryz.prog 60=true:=by kernel_rfl
theorem hb61:aH Tryz.prog 61=true:=by kernel_rfl
theorem hb62:aH Tryz.prog 62=true:=by kernel_rfl
theorem hb73:aH Tryz.prog 73=true:=by kernel_rfl
theorem Dl:aH Tryz.prog 81=true:=by kernel_rfl
theorem hb82:aH Tryz.prog 82=true:=by kernel_rfl
theorem hb83:aH Tryz.prog 83=true:=by kernel_rfl
theorem BC:aH Tryz.prog 84=true:=by kernel_rfl
theorem hb86:aH Tryz.prog 86=true:=by kernel_rfl
theorem hb87:aH Tryz.prog 87=true:=by kernel_rfl
theorem KV:aH Tryz.prog 88=true:=by kernel_rfl
theorem Ab:aH Tryz.prog 89=true:=by kernel_rfl
theorem hb97:aH Tryz.prog 97=true:=by kernel_rfl
theorem hb98:aH Tryz.prog 98=true:=by kernel_rfl
theorem hb99:aH Tryz.prog 99=true:=by kernel_rfl
theorem Jt:Dh Tryz.prog 168=some (9,4):=by kernel_rfl
theorem Jy:Dh Tryz.prog 185=some (191,3):=by kernel_rfl
theorem mt205:Dh Tryz.prog 205=some (191,4):=by kernel_rfl
theorem nb248:aH Tryz.prog 248=false:=by kernel_rfl
theorem nb320:aH Tryz.prog 320=false:=by kernel_rfl
theorem eD:fI Tryz.prog 100 0=some (0,1):=by kernel_rfl
theorem vC:fI Tryz.prog 100 1=some (1,1):=by kernel_rfl
theorem lQ:fI Tryz.prog 100 2=some (2,1):=by kernel_rfl
theorem kQ:fI Tryz.prog 100 3=some (3,1):=by kernel_rfl
theorem fq:fI Tryz.prog 100 4=some (4,1):=by kernel_rfl
theorem xu:fI Tryz.prog 100 5=some (5,1):=by kernel_rfl
theorem Fe:fI Tryz.prog 100 6=some (6,1):=by kernel_rfl
theorem oF:fI Tryz.prog 100 7=some (7,1):=by kernel_rfl
theorem tu:fI Tryz.prog 100 8=some (8,1):=by kernel_rfl
theorem EP:fI Tryz.prog 25 0=some (0,1):=by kernel_rfl
theorem CJ:fI Tryz.prog 25 1=some (1,1):=by kernel_rfl
theorem vG:fI Tryz.prog 45 0=some (0,1):=by kernel_rfl
theorem vk:fI Tryz.prog 45 1=some (1,1):=by kernel_rfl
theorem BG:fI Tryz.prog 45 2=some (2,1):=by kernel_rfl
theorem zy:fI Tryz.prog 45 3=some (3,1):=by kernel_rfl
theorem mg:fI Tryz.prog 66 0=some (0,1):=by kernel_rfl
theorem Ar:fI Tryz.prog 66 1=some (1,1):=by kernel_rfl
theorem Dc:fI Tryz.prog 66 2=some (2,1):=by kernel_rfl
theorem rZ:fI Tryz.prog 91 0=some (0,1):=by kernel_rfl
theorem sN:fI Tryz.prog 91 1=some (1,1):=by kernel_rfl
theorem nD:fI Tryz.prog 91 2=some (2,1):=by kernel_rfl
theorem BU:fI Tryz.prog 91 3=some (3,1):=by kernel_rfl
theorem EJ:fI Tryz.prog 96 0=some (0,1):=by kernel_rfl
theorem Fy:fI Tryz.prog 96 1=some (1,1):=by kernel_rfl
theorem Ia:fI Tryz.prog 96 2=some (2,1):=by kernel_rfl
theorem MM:fI Tryz.prog 96 3=some (3,1):=by kernel_rfl
theorem dF:szT Tryz.prog 100=some 9:=by kernel_rfl
theorem ll:szT Tryz.prog 111=some 2:=by kernel_rfl
theorem Lh:szT Tryz.prog 191=some 2:=by kernel_rfl
theorem sz22:szT Tryz.prog 22=some 1:=by kernel_rfl
theorem sz3:szT Tryz.prog 3=some 1:=by kernel_rfl
theorem sz35:szT Tryz.prog 35=some 1:=by kernel_rfl
theorem sz4:szT Tryz.prog 4=some 1:=by kernel_rfl
theorem u7:szT Tryz.prog 45=some 4:=by kernel_rfl
theorem pg:szT Tryz.prog 66=some 3:=by kernel_rfl
theorem xL:szT Tryz.prog 79=some 1:=by kernel_rfl
theorem sz89:szT Tryz.prog 89=some 1:=by kernel_rfl
theorem sz9:szT Tryz.prog 9=some 1:=by kernel_rfl
theorem jh:szT Tryz.prog 91=some 4:=by kernel_rfl
theorem IL:szT Tryz.prog 96=some 4:=by kernel_rfl
theorem BQ:szT Tryz.prog 98=some 1:=by kernel_rfl
theorem un140:(Tryz.prog).underlying 140=some (.slice 35):=by kernel_rfl
theorem un196:(Tryz.prog).underlying 196=some (.slice 4):=by kernel_rfl
theorem un198:(Tryz.prog).underlying 198=some (.array 2 89):=by kernel_rfl
theorem Li:(Tryz.prog).underlying 22=some (.slice 3):=by kernel_rfl
theorem un238:(Tryz.prog).underlying 238=some (.int .u64):=by kernel_rfl
theorem un253:(Tryz.prog).underlying 253=some (.slice 89):=by kernel_rfl
theorem un289:(Tryz.prog).underlying 289=some (.int .u64):=by kernel_rfl
theorem un3:(Tryz.prog).underlying 3=some (.int .i64):=by kernel_rfl
theorem un4:(Tryz.prog).underlying 4=some .bool:=by kernel_rfl
theorem un5:(Tryz.prog).underlying 5=some (.int .u8):=by kernel_rfl
theorem uT:(Tryz.prog).underlying 56=some (.slice 100):=by kernel_rfl
theorem AY:(Tryz.prog).underlying 63=some (.slice 66):=by kernel_rfl
theorem rA:(Tryz.prog).underlying 79=some (.slice 9):=by kernel_rfl
theorem nE:(Tryz.prog).underlying 89=some (.slice 91):=by kernel_rfl
theorem un9:(Tryz.prog).underlying 9=some .string:=by kernel_rfl
theorem un92:(Tryz.prog).underlying 92=some (.slice 96):=by kernel_rfl
theorem H9:(Tryz.prog).underlying 98=some (.slice 45):=by kernel_rfl
theorem yh:zeroCells Tryz.prog 100=some [.d (.str ⟨#[]⟩),.d (.str ⟨#[]⟩),.d (.int .i64 0),.nil,.d (.int .i64 0),.d (.int .i64 0),.d (.int .i64 0),.nil,.d (.str ⟨#[]⟩)]:=by kernel_rfl
theorem IU:zeroCells Tryz.prog 111=some [.d (.int .i64 0),.d (.int .i64 0)]:=by kernel_rfl
theorem z191:zeroCells Tryz.prog 191=some [.d (.str ⟨#[]⟩),.d (.str ⟨#[]⟩)]:=by kernel_rfl
theorem z3:zeroCells Tryz.prog 3=some [.d (.int .i64 0)]:=by kernel_rfl
theorem z45:zeroCells Tryz.prog 45=some [.d (.int .i64 0),.d (.int .i64 0),.d (.int .i64 0),.d (.int .i64 0)]:=by kernel_rfl
theorem z66:zeroCells Tryz.prog 66=some [.d (.str ⟨#[]⟩),.d (.int .i64 0),.d (.int .i64 0)]:=by kernel_rfl
theorem z9:zeroCells Tryz.prog 9=some [.d (.str ⟨#[]⟩)]:=by kernel_rfl
theorem z91:zeroCells Tryz.prog 91=some [.d (.str ⟨#[]⟩),.d (.str ⟨#[]⟩),.d (.int .i64 0),.d (.bool false)]:=by kernel_rfl
theorem z96:zeroCells Tryz.prog 96=some [.d (.str ⟨#[]⟩),.d (.str ⟨#[]⟩),.d (.int .i64 0),.d (.int .i64 0)]:=by kernel_rfl
theorem KA:∀w0,Go.Eng.Cc w0->Go.Lib.Utf8Tabs 1 2 w0:=λ_ h=>h.1
theorem F3:∀w0,Go.Eng.Cc w0->∃m,w0.cell? ⟨0,0,none⟩=some (.int .i64 m):=λ_ h=>h.2
end Go.Proofs.YtjhcehhmdmbleaaGreatDoor.Law

