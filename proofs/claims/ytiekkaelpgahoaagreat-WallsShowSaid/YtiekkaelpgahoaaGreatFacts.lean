/-
  Closed facts on the types and functions of the program.
-/
import Derived.Test.YtiekkaelpgahoaaGreatProg
import Derived.Test.YtiekkaelpgahoaaGreatEng4
open Go Go.Eng Go.Proofs
namespace Go.Proofs.YtiekkaelpgahoaaGreat.Law
set_option maxRecDepth 100000
set_option linter.unusedVariables false
set_option maxHeartbeats 1000000
theorem ag107 : isAggT Tryz.prog 107 = true := by kernel_rfl
theorem ag123 : isAggT Tryz.prog 123 = true := by kernel_rfl
theorem ag170 : isAggT Tryz.prog 170 = true := by kernel_rfl
theorem ag22 : isAggT Tryz.prog 22 = false := by kernel_rfl
theorem ag26 : isAggT Tryz.prog 26 = false := by kernel_rfl
theorem ag28 : isAggT Tryz.prog 28 = true := by kernel_rfl
theorem ag3 : isAggT Tryz.prog 3 = false := by kernel_rfl
theorem ag32 : isAggT Tryz.prog 32 = false := by kernel_rfl
theorem ag49 : isAggT Tryz.prog 49 = true := by kernel_rfl
theorem ag51 : isAggT Tryz.prog 51 = true := by kernel_rfl
theorem ag56 : isAggT Tryz.prog 56 = false := by kernel_rfl
theorem ag58 : isAggT Tryz.prog 58 = true := by kernel_rfl
theorem ag62 : isAggT Tryz.prog 62 = false := by kernel_rfl
theorem ag84 : isAggT Tryz.prog 84 = true := by kernel_rfl
theorem ag9 : isAggT Tryz.prog 9 = false := by kernel_rfl
theorem by107 : bytesT Tryz.prog 107 = 56 := by kernel_rfl
theorem by123 : bytesT Tryz.prog 123 = 48 := by kernel_rfl
theorem by170 : bytesT Tryz.prog 170 = 16 := by kernel_rfl
theorem by3 : bytesT Tryz.prog 3 = 8 := by kernel_rfl
theorem by49 : bytesT Tryz.prog 49 = 32 := by kernel_rfl
theorem by51 : bytesT Tryz.prog 51 = 48 := by kernel_rfl
theorem by84 : bytesT Tryz.prog 84 = 64 := by kernel_rfl
theorem el165 : elemT Tryz.prog 165 = some 170 := by kernel_rfl
theorem el22 : elemT Tryz.prog 22 = some 3 := by kernel_rfl
theorem el26 : elemT Tryz.prog 26 = some 107 := by kernel_rfl
theorem el35 : elemT Tryz.prog 35 = some 51 := by kernel_rfl
theorem el56 : elemT Tryz.prog 56 = some 123 := by kernel_rfl
theorem el62 : elemT Tryz.prog 62 = some 49 := by kernel_rfl
theorem el77 : elemT Tryz.prog 77 = some 84 := by kernel_rfl
theorem es115 : (elemT Tryz.prog 115).bind (szT Tryz.prog) = some 1 := by kernel_rfl
theorem es165 : (elemT Tryz.prog 165).bind (szT Tryz.prog) = some 2 := by kernel_rfl
theorem es192 : (elemT Tryz.prog 192).bind (szT Tryz.prog) = some 1 := by kernel_rfl
theorem es22 : (elemT Tryz.prog 22).bind (szT Tryz.prog) = some 1 := by kernel_rfl
theorem es26 : (elemT Tryz.prog 26).bind (szT Tryz.prog) = some 6 := by kernel_rfl
theorem es35 : (elemT Tryz.prog 35).bind (szT Tryz.prog) = some 5 := by kernel_rfl
theorem es38 : (elemT Tryz.prog 38).bind (szT Tryz.prog) = some 1 := by kernel_rfl
theorem es56 : (elemT Tryz.prog 56).bind (szT Tryz.prog) = some 5 := by kernel_rfl
theorem es62 : (elemT Tryz.prog 62).bind (szT Tryz.prog) = some 4 := by kernel_rfl
theorem es77 : (elemT Tryz.prog 77).bind (szT Tryz.prog) = some 6 := by kernel_rfl
theorem ez115 : ((elemT Tryz.prog 115).bind (zeroCells Tryz.prog)).isSome = true := by kernel_rfl
theorem ez165 : ((elemT Tryz.prog 165).bind (zeroCells Tryz.prog)).isSome = true := by kernel_rfl
theorem ez192 : ((elemT Tryz.prog 192).bind (zeroCells Tryz.prog)).isSome = true := by kernel_rfl
theorem ez22 : ((elemT Tryz.prog 22).bind (zeroCells Tryz.prog)).isSome = true := by kernel_rfl
theorem ez26 : ((elemT Tryz.prog 26).bind (zeroCells Tryz.prog)).isSome = true := by kernel_rfl
theorem ez35 : ((elemT Tryz.prog 35).bind (zeroCells Tryz.prog)).isSome = true := by kernel_rfl
theorem ez38 : ((elemT Tryz.prog 38).bind (zeroCells Tryz.prog)).isSome = true := by kernel_rfl
theorem ez56 : ((elemT Tryz.prog 56).bind (zeroCells Tryz.prog)).isSome = true := by kernel_rfl
theorem ez62 : ((elemT Tryz.prog 62).bind (zeroCells Tryz.prog)).isSome = true := by kernel_rfl
theorem ez77 : ((elemT Tryz.prog 77).bind (zeroCells Tryz.prog)).isSome = true := by kernel_rfl
theorem hb10 : hasBody Tryz.prog 10 = true := by kernel_rfl
theorem hb108 : hasBody Tryz.prog 108 = true := by kernel_rfl
theorem hb109 : hasBody Tryz.prog 109 = true := by kernel_rfl
theorem hb110 : hasBody Tryz.prog 110 = true := by kernel_rfl
theorem hb111 : hasBody Tryz.prog 111 = true := by kernel_rfl
theorem hb112 : hasBody Tryz.prog 112 = true := by kernel_rfl
theorem hb113 : hasBody Tryz.prog 113 = true := by kernel_rfl
theorem hb114 : hasBody Tryz.prog 114 = true := by kernel_rfl
theorem hb115 : hasBody Tryz.prog 115 = true := by kernel_rfl
theorem hb116 : hasBody Tryz.prog 116 = true := by kernel_rfl
theorem hb118 : hasBody Tryz.prog 118 = true := by kernel_rfl
theorem hb119 : hasBody Tryz.prog 119 = true := by kernel_rfl
theorem hb120 : hasBody Tryz.prog 120 = true := by kernel_rfl
theorem hb121 : hasBody Tryz.prog 121 = true := by kernel_rfl
theorem hb122 : hasBody Tryz.prog 122 = true := by kernel_rfl
theorem hb123 : hasBody Tryz.prog 123 = true := by kernel_rfl
theorem hb126 : hasBody Tryz.prog 126 = true := by kernel_rfl
theorem hb14 : hasBody Tryz.prog 14 = true := by kernel_rfl
theorem hb15 : hasBody Tryz.prog 15 = true := by kernel_rfl
theorem hb150 : hasBody Tryz.prog 150 = true := by kernel_rfl
theorem hb151 : hasBody Tryz.prog 151 = true := by kernel_rfl
theorem hb153 : hasBody Tryz.prog 153 = true := by kernel_rfl
theorem hb154 : hasBody Tryz.prog 154 = true := by kernel_rfl
theorem hb155 : hasBody Tryz.prog 155 = true := by kernel_rfl
theorem hb16 : hasBody Tryz.prog 16 = true := by kernel_rfl
theorem hb176 : hasBody Tryz.prog 176 = true := by kernel_rfl
theorem hb18 : hasBody Tryz.prog 18 = true := by kernel_rfl
theorem hb187 : hasBody Tryz.prog 187 = true := by kernel_rfl
theorem hb188 : hasBody Tryz.prog 188 = true := by kernel_rfl
theorem hb19 : hasBody Tryz.prog 19 = true := by kernel_rfl
theorem hb21 : hasBody Tryz.prog 21 = true := by kernel_rfl
theorem hb220 : hasBody Tryz.prog 220 = true := by kernel_rfl
theorem hb24 : hasBody Tryz.prog 24 = true := by kernel_rfl
theorem hb25 : hasBody Tryz.prog 25 = true := by kernel_rfl
theorem hb29 : hasBody Tryz.prog 29 = true := by kernel_rfl
theorem hb30 : hasBody Tryz.prog 30 = true := by kernel_rfl
theorem hb31 : hasBody Tryz.prog 31 = true := by kernel_rfl
theorem hb37 : hasBody Tryz.prog 37 = true := by kernel_rfl
theorem hb38 : hasBody Tryz.prog 38 = true := by kernel_rfl
theorem hb39 : hasBody Tryz.prog 39 = true := by kernel_rfl
theorem hb40 : hasBody Tryz.prog 40 = true := by kernel_rfl
theorem hb41 : hasBody Tryz.prog 41 = true := by kernel_rfl
theorem hb45 : hasBody Tryz.prog 45 = true := by kernel_rfl
theorem hb56 : hasBody Tryz.prog 56 = true := by kernel_rfl
theorem hb57 : hasBody Tryz.prog 57 = true := by kernel_rfl
theorem hb58 : hasBody Tryz.prog 58 = true := by kernel_rfl
theorem hb59 : hasBody Tryz.prog 59 = true := by kernel_rfl
theorem hb62 : hasBody Tryz.prog 62 = true := by kernel_rfl
theorem hb63 : hasBody Tryz.prog 63 = true := by kernel_rfl
theorem hb64 : hasBody Tryz.prog 64 = true := by kernel_rfl
theorem hb65 : hasBody Tryz.prog 65 = true := by kernel_rfl
theorem hb66 : hasBody Tryz.prog 66 = true := by kernel_rfl
theorem hb67 : hasBody Tryz.prog 67 = true := by kernel_rfl
theorem hb68 : hasBody Tryz.prog 68 = true := by kernel_rfl
theorem hb69 : hasBody Tryz.prog 69 = true := by kernel_rfl
theorem hb7 : hasBody Tryz.prog 7 = true := by kernel_rfl
theorem hb70 : hasBody Tryz.prog 70 = true := by kernel_rfl
theorem hb71 : hasBody Tryz.prog 71 = true := by kernel_rfl
theorem hb72 : hasBody Tryz.prog 72 = true := by kernel_rfl
theorem hb73 : hasBody Tryz.prog 73 = true := by kernel_rfl
theorem hb74 : hasBody Tryz.prog 74 = true := by kernel_rfl
theorem hb75 : hasBody Tryz.prog 75 = true := by kernel_rfl
theorem hb76 : hasBody Tryz.prog 76 = true := by kernel_rfl
theorem hb77 : hasBody Tryz.prog 77 = true := by kernel_rfl
theorem hb8 : hasBody Tryz.prog 8 = true := by kernel_rfl
theorem hb80 : hasBody Tryz.prog 80 = true := by kernel_rfl
theorem hb81 : hasBody Tryz.prog 81 = true := by kernel_rfl
theorem hb82 : hasBody Tryz.prog 82 = true := by kernel_rfl
theorem hb84 : hasBody Tryz.prog 84 = true := by kernel_rfl
theorem hb85 : hasBody Tryz.prog 85 = true := by kernel_rfl
theorem hb86 : hasBody Tryz.prog 86 = true := by kernel_rfl
theorem hb87 : hasBody Tryz.prog 87 = true := by kernel_rfl
theorem hb88 : hasBody Tryz.prog 88 = true := by kernel_rfl
theorem hb9 : hasBody Tryz.prog 9 = true := by kernel_rfl
theorem hb91 : hasBody Tryz.prog 91 = true := by kernel_rfl
theorem hb92 : hasBody Tryz.prog 92 = true := by kernel_rfl
theorem hb93 : hasBody Tryz.prog 93 = true := by kernel_rfl
theorem nb214 : hasBody Tryz.prog 214 = false := by kernel_rfl
theorem pl107_0 : placeT Tryz.prog 107 0 = some (0, 1) := by kernel_rfl
theorem pl107_1 : placeT Tryz.prog 107 1 = some (1, 4) := by kernel_rfl
theorem pl107_2 : placeT Tryz.prog 107 2 = some (5, 1) := by kernel_rfl
theorem pl123_0 : placeT Tryz.prog 123 0 = some (0, 1) := by kernel_rfl
theorem pl123_1 : placeT Tryz.prog 123 1 = some (1, 4) := by kernel_rfl
theorem pl170_0 : placeT Tryz.prog 170 0 = some (0, 1) := by kernel_rfl
theorem pl170_1 : placeT Tryz.prog 170 1 = some (1, 1) := by kernel_rfl
theorem pl25_0 : placeT Tryz.prog 25 0 = some (0, 1) := by kernel_rfl
theorem pl25_1 : placeT Tryz.prog 25 1 = some (1, 1) := by kernel_rfl
theorem pl28_0 : placeT Tryz.prog 28 0 = some (0, 1) := by kernel_rfl
theorem pl28_1 : placeT Tryz.prog 28 1 = some (1, 1) := by kernel_rfl
theorem pl28_2 : placeT Tryz.prog 28 2 = some (2, 1) := by kernel_rfl
theorem pl28_3 : placeT Tryz.prog 28 3 = some (3, 1) := by kernel_rfl
theorem pl49_0 : placeT Tryz.prog 49 0 = some (0, 1) := by kernel_rfl
theorem pl49_1 : placeT Tryz.prog 49 1 = some (1, 1) := by kernel_rfl
theorem pl49_2 : placeT Tryz.prog 49 2 = some (2, 1) := by kernel_rfl
theorem pl49_3 : placeT Tryz.prog 49 3 = some (3, 1) := by kernel_rfl
theorem pl51_0 : placeT Tryz.prog 51 0 = some (0, 1) := by kernel_rfl
theorem pl51_1 : placeT Tryz.prog 51 1 = some (1, 4) := by kernel_rfl
theorem pl58_0 : placeT Tryz.prog 58 0 = some (0, 1) := by kernel_rfl
theorem pl58_1 : placeT Tryz.prog 58 1 = some (1, 1) := by kernel_rfl
theorem pl58_2 : placeT Tryz.prog 58 2 = some (2, 1) := by kernel_rfl
theorem pl58_3 : placeT Tryz.prog 58 3 = some (3, 1) := by kernel_rfl
theorem pl84_2 : placeT Tryz.prog 84 2 = some (2, 4) := by kernel_rfl
theorem sz107 : szT Tryz.prog 107 = some 6 := by kernel_rfl
theorem sz123 : szT Tryz.prog 123 = some 5 := by kernel_rfl
theorem sz170 : szT Tryz.prog 170 = some 2 := by kernel_rfl
theorem sz22 : szT Tryz.prog 22 = some 1 := by kernel_rfl
theorem sz26 : szT Tryz.prog 26 = some 1 := by kernel_rfl
theorem sz28 : szT Tryz.prog 28 = some 4 := by kernel_rfl
theorem sz3 : szT Tryz.prog 3 = some 1 := by kernel_rfl
theorem sz32 : szT Tryz.prog 32 = some 1 := by kernel_rfl
theorem sz49 : szT Tryz.prog 49 = some 4 := by kernel_rfl
theorem sz51 : szT Tryz.prog 51 = some 5 := by kernel_rfl
theorem sz56 : szT Tryz.prog 56 = some 1 := by kernel_rfl
theorem sz58 : szT Tryz.prog 58 = some 4 := by kernel_rfl
theorem sz62 : szT Tryz.prog 62 = some 1 := by kernel_rfl
theorem sz84 : szT Tryz.prog 84 = some 6 := by kernel_rfl
theorem sz9 : szT Tryz.prog 9 = some 1 := by kernel_rfl
theorem un115 : (Tryz.prog).underlying 115 = some (.slice 32) := by kernel_rfl
theorem un165 : (Tryz.prog).underlying 165 = some (.slice 170) := by kernel_rfl
theorem un192 : (Tryz.prog).underlying 192 = some (.slice 62) := by kernel_rfl
theorem un196 : (Tryz.prog).underlying 196 = some (.int .u64) := by kernel_rfl
theorem un218 : (Tryz.prog).underlying 218 = some (.int .u64) := by kernel_rfl
theorem un22 : (Tryz.prog).underlying 22 = some (.slice 3) := by kernel_rfl
theorem un26 : (Tryz.prog).underlying 26 = some (.slice 107) := by kernel_rfl
theorem un3 : (Tryz.prog).underlying 3 = some (.int .i64) := by kernel_rfl
theorem un35 : (Tryz.prog).underlying 35 = some (.slice 51) := by kernel_rfl
theorem un38 : (Tryz.prog).underlying 38 = some (.slice 9) := by kernel_rfl
theorem un5 : (Tryz.prog).underlying 5 = some (.int .u8) := by kernel_rfl
theorem un56 : (Tryz.prog).underlying 56 = some (.slice 123) := by kernel_rfl
theorem un62 : (Tryz.prog).underlying 62 = some (.slice 49) := by kernel_rfl
theorem un77 : (Tryz.prog).underlying 77 = some (.slice 84) := by kernel_rfl
theorem un9 : (Tryz.prog).underlying 9 = some .string := by kernel_rfl
theorem z107 : zeroCells Tryz.prog 107 = some [.d (.str ⟨#[]⟩), .d (.int .i64 0), .d (.int .i64 0), .d (.int .i64 0), .d (.int .i64 0), .d (.int .i64 0)] := by kernel_rfl
theorem z123 : zeroCells Tryz.prog 123 = some [.d (.str ⟨#[]⟩), .d (.int .i64 0), .d (.int .i64 0), .d (.int .i64 0), .d (.int .i64 0)] := by kernel_rfl
theorem z170 : zeroCells Tryz.prog 170 = some [.d (.int .i64 0), .d (.int .i64 0)] := by kernel_rfl
theorem z28 : zeroCells Tryz.prog 28 = some [.d (.str ⟨#[]⟩), .d (.int .i64 0), .d (.int .i64 0), .nil] := by kernel_rfl
theorem z3 : zeroCells Tryz.prog 3 = some [.d (.int .i64 0)] := by kernel_rfl
theorem z49 : zeroCells Tryz.prog 49 = some [.d (.int .i64 0), .d (.int .i64 0), .d (.int .i64 0), .d (.int .i64 0)] := by kernel_rfl
theorem z51 : zeroCells Tryz.prog 51 = some [.d (.str ⟨#[]⟩), .d (.int .i64 0), .d (.int .i64 0), .d (.int .i64 0), .d (.int .i64 0)] := by kernel_rfl
theorem z58 : zeroCells Tryz.prog 58 = some [.d (.str ⟨#[]⟩), .d (.int .i64 0), .d (.int .i64 0), .nil] := by kernel_rfl
theorem z84 : zeroCells Tryz.prog 84 = some [.d (.str ⟨#[]⟩), .d (.str ⟨#[]⟩), .d (.int .i64 0), .d (.int .i64 0), .d (.int .i64 0), .d (.int .i64 0)] := by kernel_rfl
end Go.Proofs.YtiekkaelpgahoaaGreat.Law

