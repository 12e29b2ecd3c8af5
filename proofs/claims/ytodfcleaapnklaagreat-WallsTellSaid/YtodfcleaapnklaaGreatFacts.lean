/-
  Closed facts on the types and functions of the program.
-/
import Derived.Test.YtodfcleaapnklaaGreatProg
import Derived.Test.YtodfcleaapnklaaGreatEng4
open Go Go.Eng Go.Proofs
namespace Go.Proofs.YtodfcleaapnklaaGreat.Law
set_option maxRecDepth 100000
set_option linter.unusedVariables false
set_option maxHeartbeats 1000000
theorem ag121 : isAggT Tryz.prog 121 = true := by kernel_rfl
theorem ag22 : isAggT Tryz.prog 22 = false := by kernel_rfl
theorem ag3 : isAggT Tryz.prog 3 = false := by kernel_rfl
theorem ag32 : isAggT Tryz.prog 32 = false := by kernel_rfl
theorem ag49 : isAggT Tryz.prog 49 = true := by kernel_rfl
theorem ag56 : isAggT Tryz.prog 56 = false := by kernel_rfl
theorem ag58 : isAggT Tryz.prog 58 = true := by kernel_rfl
theorem ag62 : isAggT Tryz.prog 62 = false := by kernel_rfl
theorem ag76 : isAggT Tryz.prog 76 = true := by kernel_rfl
theorem ag9 : isAggT Tryz.prog 9 = false := by kernel_rfl
theorem ag99 : isAggT Tryz.prog 99 = true := by kernel_rfl
theorem by121 : bytesT Tryz.prog 121 = 16 := by kernel_rfl
theorem by3 : bytesT Tryz.prog 3 = 8 := by kernel_rfl
theorem by49 : bytesT Tryz.prog 49 = 32 := by kernel_rfl
theorem by76 : bytesT Tryz.prog 76 = 80 := by kernel_rfl
theorem by99 : bytesT Tryz.prog 99 = 48 := by kernel_rfl
theorem el116 : elemT Tryz.prog 116 = some 121 := by kernel_rfl
theorem el22 : elemT Tryz.prog 22 = some 3 := by kernel_rfl
theorem el56 : elemT Tryz.prog 56 = some 99 := by kernel_rfl
theorem el62 : elemT Tryz.prog 62 = some 49 := by kernel_rfl
theorem el65 : elemT Tryz.prog 65 = some 76 := by kernel_rfl
theorem es116 : (elemT Tryz.prog 116).bind (szT Tryz.prog) = some 2 := by kernel_rfl
theorem es125 : (elemT Tryz.prog 125).bind (szT Tryz.prog) = some 1 := by kernel_rfl
theorem es22 : (elemT Tryz.prog 22).bind (szT Tryz.prog) = some 1 := by kernel_rfl
theorem es38 : (elemT Tryz.prog 38).bind (szT Tryz.prog) = some 1 := by kernel_rfl
theorem es56 : (elemT Tryz.prog 56).bind (szT Tryz.prog) = some 5 := by kernel_rfl
theorem es62 : (elemT Tryz.prog 62).bind (szT Tryz.prog) = some 4 := by kernel_rfl
theorem es65 : (elemT Tryz.prog 65).bind (szT Tryz.prog) = some 9 := by kernel_rfl
theorem es90 : (elemT Tryz.prog 90).bind (szT Tryz.prog) = some 1 := by kernel_rfl
theorem ez116 : ((elemT Tryz.prog 116).bind (zeroCells Tryz.prog)).isSome = true := by kernel_rfl
theorem ez125 : ((elemT Tryz.prog 125).bind (zeroCells Tryz.prog)).isSome = true := by kernel_rfl
theorem ez22 : ((elemT Tryz.prog 22).bind (zeroCells Tryz.prog)).isSome = true := by kernel_rfl
theorem ez38 : ((elemT Tryz.prog 38).bind (zeroCells Tryz.prog)).isSome = true := by kernel_rfl
theorem ez56 : ((elemT Tryz.prog 56).bind (zeroCells Tryz.prog)).isSome = true := by kernel_rfl
theorem ez62 : ((elemT Tryz.prog 62).bind (zeroCells Tryz.prog)).isSome = true := by kernel_rfl
theorem ez65 : ((elemT Tryz.prog 65).bind (zeroCells Tryz.prog)).isSome = true := by kernel_rfl
theorem ez90 : ((elemT Tryz.prog 90).bind (zeroCells Tryz.prog)).isSome = true := by kernel_rfl
theorem hb109 : hasBody Tryz.prog 109 = true := by kernel_rfl
theorem hb110 : hasBody Tryz.prog 110 = true := by kernel_rfl
theorem hb111 : hasBody Tryz.prog 111 = true := by kernel_rfl
theorem hb119 : hasBody Tryz.prog 119 = true := by kernel_rfl
theorem hb14 : hasBody Tryz.prog 14 = true := by kernel_rfl
theorem hb15 : hasBody Tryz.prog 15 = true := by kernel_rfl
theorem hb17 : hasBody Tryz.prog 17 = true := by kernel_rfl
theorem hb22 : hasBody Tryz.prog 22 = true := by kernel_rfl
theorem hb23 : hasBody Tryz.prog 23 = true := by kernel_rfl
theorem hb24 : hasBody Tryz.prog 24 = true := by kernel_rfl
theorem hb25 : hasBody Tryz.prog 25 = true := by kernel_rfl
theorem hb26 : hasBody Tryz.prog 26 = true := by kernel_rfl
theorem hb27 : hasBody Tryz.prog 27 = true := by kernel_rfl
theorem hb28 : hasBody Tryz.prog 28 = true := by kernel_rfl
theorem hb29 : hasBody Tryz.prog 29 = true := by kernel_rfl
theorem hb30 : hasBody Tryz.prog 30 = true := by kernel_rfl
theorem hb31 : hasBody Tryz.prog 31 = true := by kernel_rfl
theorem hb32 : hasBody Tryz.prog 32 = true := by kernel_rfl
theorem hb33 : hasBody Tryz.prog 33 = true := by kernel_rfl
theorem hb34 : hasBody Tryz.prog 34 = true := by kernel_rfl
theorem hb36 : hasBody Tryz.prog 36 = true := by kernel_rfl
theorem hb37 : hasBody Tryz.prog 37 = true := by kernel_rfl
theorem hb39 : hasBody Tryz.prog 39 = true := by kernel_rfl
theorem hb40 : hasBody Tryz.prog 40 = true := by kernel_rfl
theorem hb41 : hasBody Tryz.prog 41 = true := by kernel_rfl
theorem hb45 : hasBody Tryz.prog 45 = true := by kernel_rfl
theorem hb46 : hasBody Tryz.prog 46 = true := by kernel_rfl
theorem hb47 : hasBody Tryz.prog 47 = true := by kernel_rfl
theorem hb48 : hasBody Tryz.prog 48 = true := by kernel_rfl
theorem hb49 : hasBody Tryz.prog 49 = true := by kernel_rfl
theorem hb50 : hasBody Tryz.prog 50 = true := by kernel_rfl
theorem hb51 : hasBody Tryz.prog 51 = true := by kernel_rfl
theorem hb52 : hasBody Tryz.prog 52 = true := by kernel_rfl
theorem hb53 : hasBody Tryz.prog 53 = true := by kernel_rfl
theorem hb54 : hasBody Tryz.prog 54 = true := by kernel_rfl
theorem hb55 : hasBody Tryz.prog 55 = true := by kernel_rfl
theorem hb56 : hasBody Tryz.prog 56 = true := by kernel_rfl
theorem hb6 : hasBody Tryz.prog 6 = true := by kernel_rfl
theorem hb60 : hasBody Tryz.prog 60 = true := by kernel_rfl
theorem hb61 : hasBody Tryz.prog 61 = true := by kernel_rfl
theorem hb62 : hasBody Tryz.prog 62 = true := by kernel_rfl
theorem hb63 : hasBody Tryz.prog 63 = true := by kernel_rfl
theorem hb64 : hasBody Tryz.prog 64 = true := by kernel_rfl
theorem hb65 : hasBody Tryz.prog 65 = true := by kernel_rfl
theorem hb66 : hasBody Tryz.prog 66 = true := by kernel_rfl
theorem hb67 : hasBody Tryz.prog 67 = true := by kernel_rfl
theorem hb68 : hasBody Tryz.prog 68 = true := by kernel_rfl
theorem hb69 : hasBody Tryz.prog 69 = true := by kernel_rfl
theorem hb7 : hasBody Tryz.prog 7 = true := by kernel_rfl
theorem hb70 : hasBody Tryz.prog 70 = true := by kernel_rfl
theorem hb71 : hasBody Tryz.prog 71 = true := by kernel_rfl
theorem hb72 : hasBody Tryz.prog 72 = true := by kernel_rfl
theorem hb73 : hasBody Tryz.prog 73 = true := by kernel_rfl
theorem hb74 : hasBody Tryz.prog 74 = true := by kernel_rfl
theorem hb75 : hasBody Tryz.prog 75 = true := by kernel_rfl
theorem hb76 : hasBody Tryz.prog 76 = true := by kernel_rfl
theorem hb77 : hasBody Tryz.prog 77 = true := by kernel_rfl
theorem hb78 : hasBody Tryz.prog 78 = true := by kernel_rfl
theorem hb79 : hasBody Tryz.prog 79 = true := by kernel_rfl
theorem hb8 : hasBody Tryz.prog 8 = true := by kernel_rfl
theorem hb80 : hasBody Tryz.prog 80 = true := by kernel_rfl
theorem hb82 : hasBody Tryz.prog 82 = true := by kernel_rfl
theorem hb83 : hasBody Tryz.prog 83 = true := by kernel_rfl
theorem hb84 : hasBody Tryz.prog 84 = true := by kernel_rfl
theorem hb85 : hasBody Tryz.prog 85 = true := by kernel_rfl
theorem hb86 : hasBody Tryz.prog 86 = true := by kernel_rfl
theorem hb87 : hasBody Tryz.prog 87 = true := by kernel_rfl
theorem hb88 : hasBody Tryz.prog 88 = true := by kernel_rfl
theorem hb89 : hasBody Tryz.prog 89 = true := by kernel_rfl
theorem hb90 : hasBody Tryz.prog 90 = true := by kernel_rfl
theorem hb91 : hasBody Tryz.prog 91 = true := by kernel_rfl
theorem hb93 : hasBody Tryz.prog 93 = true := by kernel_rfl
theorem hb94 : hasBody Tryz.prog 94 = true := by kernel_rfl
theorem hb95 : hasBody Tryz.prog 95 = true := by kernel_rfl
theorem hb96 : hasBody Tryz.prog 96 = true := by kernel_rfl
theorem hb97 : hasBody Tryz.prog 97 = true := by kernel_rfl
theorem hb98 : hasBody Tryz.prog 98 = true := by kernel_rfl
theorem nb112 : hasBody Tryz.prog 112 = false := by kernel_rfl
theorem pl121_0 : placeT Tryz.prog 121 0 = some (0, 1) := by kernel_rfl
theorem pl121_1 : placeT Tryz.prog 121 1 = some (1, 1) := by kernel_rfl
theorem pl25_0 : placeT Tryz.prog 25 0 = some (0, 1) := by kernel_rfl
theorem pl25_1 : placeT Tryz.prog 25 1 = some (1, 1) := by kernel_rfl
theorem pl49_0 : placeT Tryz.prog 49 0 = some (0, 1) := by kernel_rfl
theorem pl49_1 : placeT Tryz.prog 49 1 = some (1, 1) := by kernel_rfl
theorem pl49_2 : placeT Tryz.prog 49 2 = some (2, 1) := by kernel_rfl
theorem pl49_3 : placeT Tryz.prog 49 3 = some (3, 1) := by kernel_rfl
theorem pl58_0 : placeT Tryz.prog 58 0 = some (0, 1) := by kernel_rfl
theorem pl58_1 : placeT Tryz.prog 58 1 = some (1, 1) := by kernel_rfl
theorem pl58_2 : placeT Tryz.prog 58 2 = some (2, 1) := by kernel_rfl
theorem pl58_3 : placeT Tryz.prog 58 3 = some (3, 1) := by kernel_rfl
theorem pl99_0 : placeT Tryz.prog 99 0 = some (0, 1) := by kernel_rfl
theorem pl99_1 : placeT Tryz.prog 99 1 = some (1, 4) := by kernel_rfl
theorem sz121 : szT Tryz.prog 121 = some 2 := by kernel_rfl
theorem sz22 : szT Tryz.prog 22 = some 1 := by kernel_rfl
theorem sz3 : szT Tryz.prog 3 = some 1 := by kernel_rfl
theorem sz32 : szT Tryz.prog 32 = some 1 := by kernel_rfl
theorem sz49 : szT Tryz.prog 49 = some 4 := by kernel_rfl
theorem sz56 : szT Tryz.prog 56 = some 1 := by kernel_rfl
theorem sz58 : szT Tryz.prog 58 = some 4 := by kernel_rfl
theorem sz62 : szT Tryz.prog 62 = some 1 := by kernel_rfl
theorem sz76 : szT Tryz.prog 76 = some 9 := by kernel_rfl
theorem sz9 : szT Tryz.prog 9 = some 1 := by kernel_rfl
theorem sz99 : szT Tryz.prog 99 = some 5 := by kernel_rfl
theorem un116 : (Tryz.prog).underlying 116 = some (.slice 121) := by kernel_rfl
theorem un125 : (Tryz.prog).underlying 125 = some (.slice 62) := by kernel_rfl
theorem un129 : (Tryz.prog).underlying 129 = some (.int .u64) := by kernel_rfl
theorem un145 : (Tryz.prog).underlying 145 = some (.int .u64) := by kernel_rfl
theorem un22 : (Tryz.prog).underlying 22 = some (.slice 3) := by kernel_rfl
theorem un3 : (Tryz.prog).underlying 3 = some (.int .i64) := by kernel_rfl
theorem un38 : (Tryz.prog).underlying 38 = some (.slice 9) := by kernel_rfl
theorem un4 : (Tryz.prog).underlying 4 = some .bool := by kernel_rfl
theorem un5 : (Tryz.prog).underlying 5 = some (.int .u8) := by kernel_rfl
theorem un56 : (Tryz.prog).underlying 56 = some (.slice 99) := by kernel_rfl
theorem un62 : (Tryz.prog).underlying 62 = some (.slice 49) := by kernel_rfl
theorem un65 : (Tryz.prog).underlying 65 = some (.slice 76) := by kernel_rfl
theorem un9 : (Tryz.prog).underlying 9 = some .string := by kernel_rfl
theorem un90 : (Tryz.prog).underlying 90 = some (.slice 32) := by kernel_rfl
theorem z121 : zeroCells Tryz.prog 121 = some [.d (.int .i64 0), .d (.int .i64 0)] := by kernel_rfl
theorem z3 : zeroCells Tryz.prog 3 = some [.d (.int .i64 0)] := by kernel_rfl
theorem z49 : zeroCells Tryz.prog 49 = some [.d (.int .i64 0), .d (.int .i64 0), .d (.int .i64 0), .d (.int .i64 0)] := by kernel_rfl
theorem z58 : zeroCells Tryz.prog 58 = some [.d (.str ⟨#[]⟩), .d (.int .i64 0), .d (.int .i64 0), .nil] := by kernel_rfl
theorem z76 : zeroCells Tryz.prog 76 = some [.d (.str ⟨#[]⟩), .d (.int .i64 0), .d (.int .i64 0), .d (.int .i64 0), .d (.int .i64 0), .d (.int .i64 0), .d (.int .i64 0), .d (.int .i64 0), .d (.int .i64 0)] := by kernel_rfl
theorem z99 : zeroCells Tryz.prog 99 = some [.d (.str ⟨#[]⟩), .d (.int .i64 0), .d (.int .i64 0), .d (.int .i64 0), .d (.int .i64 0)] := by kernel_rfl
end Go.Proofs.YtodfcleaapnklaaGreat.Law
