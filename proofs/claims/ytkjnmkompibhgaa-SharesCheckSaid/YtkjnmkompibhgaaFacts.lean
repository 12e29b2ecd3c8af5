/-
  Closed facts on the types and functions of the program.
-/
import Derived.Test.YtkjnmkompibhgaaProg
import Derived.Test.YtkjnmkompibhgaaEng3
open Go Go.Eng Go.Proofs
namespace Go.Proofs.Ytkjnmkompibhgaa.Law
set_option maxRecDepth 100000
set_option linter.unusedVariables false
set_option maxHeartbeats 1000000
theorem ag22 : isAggT Try.prog 22 = false := by kernel_rfl
theorem ag28 : isAggT Try.prog 28 = false := by kernel_rfl
theorem ag3 : isAggT Try.prog 3 = false := by kernel_rfl
theorem ag34 : isAggT Try.prog 34 = true := by kernel_rfl
theorem ag35 : isAggT Try.prog 35 = false := by kernel_rfl
theorem ag37 : isAggT Try.prog 37 = true := by kernel_rfl
theorem ag43 : isAggT Try.prog 43 = true := by kernel_rfl
theorem ag62 : isAggT Try.prog 62 = true := by kernel_rfl
theorem ag9 : isAggT Try.prog 9 = false := by kernel_rfl
theorem ag95 : isAggT Try.prog 95 = false := by kernel_rfl
theorem by37 : bytesT Try.prog 37 = 96 := by kernel_rfl
theorem by43 : bytesT Try.prog 43 = 64 := by kernel_rfl
theorem by62 : bytesT Try.prog 62 = 40 := by kernel_rfl
theorem by9 : bytesT Try.prog 9 = 16 := by kernel_rfl
theorem el26 : elemT Try.prog 26 = some 43 := by kernel_rfl
theorem el27 : elemT Try.prog 27 = some 37 := by kernel_rfl
theorem el35 : elemT Try.prog 35 = some 9 := by kernel_rfl
theorem el49 : elemT Try.prog 49 = some 62 := by kernel_rfl
theorem es115 : (elemT Try.prog 115).bind (szT Try.prog) = some 1 := by kernel_rfl
theorem es22 : (elemT Try.prog 22).bind (szT Try.prog) = some 1 := by kernel_rfl
theorem es26 : (elemT Try.prog 26).bind (szT Try.prog) = some 5 := by kernel_rfl
theorem es27 : (elemT Try.prog 27).bind (szT Try.prog) = some 8 := by kernel_rfl
theorem es35 : (elemT Try.prog 35).bind (szT Try.prog) = some 1 := by kernel_rfl
theorem es49 : (elemT Try.prog 49).bind (szT Try.prog) = some 3 := by kernel_rfl
theorem es87 : (elemT Try.prog 87).bind (szT Try.prog) = some 1 := by kernel_rfl
theorem ez115 : ((elemT Try.prog 115).bind (zeroCells Try.prog)).isSome = true := by kernel_rfl
theorem ez22 : ((elemT Try.prog 22).bind (zeroCells Try.prog)).isSome = true := by kernel_rfl
theorem ez26 : ((elemT Try.prog 26).bind (zeroCells Try.prog)).isSome = true := by kernel_rfl
theorem ez27 : ((elemT Try.prog 27).bind (zeroCells Try.prog)).isSome = true := by kernel_rfl
theorem ez35 : ((elemT Try.prog 35).bind (zeroCells Try.prog)).isSome = true := by kernel_rfl
theorem ez49 : ((elemT Try.prog 49).bind (zeroCells Try.prog)).isSome = true := by kernel_rfl
theorem ez87 : ((elemT Try.prog 87).bind (zeroCells Try.prog)).isSome = true := by kernel_rfl
theorem hb10 : hasBody Try.prog 10 = true := by kernel_rfl
theorem hb100 : hasBody Try.prog 100 = true := by kernel_rfl
theorem hb101 : hasBody Try.prog 101 = true := by kernel_rfl
theorem hb102 : hasBody Try.prog 102 = true := by kernel_rfl
theorem hb103 : hasBody Try.prog 103 = true := by kernel_rfl
theorem hb104 : hasBody Try.prog 104 = true := by kernel_rfl
theorem hb105 : hasBody Try.prog 105 = true := by kernel_rfl
theorem hb106 : hasBody Try.prog 106 = true := by kernel_rfl
theorem hb107 : hasBody Try.prog 107 = true := by kernel_rfl
theorem hb108 : hasBody Try.prog 108 = true := by kernel_rfl
theorem hb11 : hasBody Try.prog 11 = true := by kernel_rfl
theorem hb12 : hasBody Try.prog 12 = true := by kernel_rfl
theorem hb16 : hasBody Try.prog 16 = true := by kernel_rfl
theorem hb17 : hasBody Try.prog 17 = true := by kernel_rfl
theorem hb18 : hasBody Try.prog 18 = true := by kernel_rfl
theorem hb19 : hasBody Try.prog 19 = true := by kernel_rfl
theorem hb20 : hasBody Try.prog 20 = true := by kernel_rfl
theorem hb28 : hasBody Try.prog 28 = true := by kernel_rfl
theorem hb29 : hasBody Try.prog 29 = true := by kernel_rfl
theorem hb33 : hasBody Try.prog 33 = true := by kernel_rfl
theorem hb40 : hasBody Try.prog 40 = true := by kernel_rfl
theorem hb41 : hasBody Try.prog 41 = true := by kernel_rfl
theorem hb42 : hasBody Try.prog 42 = true := by kernel_rfl
theorem hb43 : hasBody Try.prog 43 = true := by kernel_rfl
theorem hb44 : hasBody Try.prog 44 = true := by kernel_rfl
theorem hb45 : hasBody Try.prog 45 = true := by kernel_rfl
theorem hb46 : hasBody Try.prog 46 = true := by kernel_rfl
theorem hb47 : hasBody Try.prog 47 = true := by kernel_rfl
theorem hb48 : hasBody Try.prog 48 = true := by kernel_rfl
theorem hb49 : hasBody Try.prog 49 = true := by kernel_rfl
theorem hb50 : hasBody Try.prog 50 = true := by kernel_rfl
theorem hb51 : hasBody Try.prog 51 = true := by kernel_rfl
theorem hb52 : hasBody Try.prog 52 = true := by kernel_rfl
theorem hb53 : hasBody Try.prog 53 = true := by kernel_rfl
theorem hb54 : hasBody Try.prog 54 = true := by kernel_rfl
theorem hb55 : hasBody Try.prog 55 = true := by kernel_rfl
theorem hb56 : hasBody Try.prog 56 = true := by kernel_rfl
theorem hb57 : hasBody Try.prog 57 = true := by kernel_rfl
theorem hb58 : hasBody Try.prog 58 = true := by kernel_rfl
theorem hb59 : hasBody Try.prog 59 = true := by kernel_rfl
theorem hb60 : hasBody Try.prog 60 = true := by kernel_rfl
theorem hb61 : hasBody Try.prog 61 = true := by kernel_rfl
theorem hb62 : hasBody Try.prog 62 = true := by kernel_rfl
theorem hb63 : hasBody Try.prog 63 = true := by kernel_rfl
theorem hb64 : hasBody Try.prog 64 = true := by kernel_rfl
theorem hb65 : hasBody Try.prog 65 = true := by kernel_rfl
theorem hb7 : hasBody Try.prog 7 = true := by kernel_rfl
theorem hb8 : hasBody Try.prog 8 = true := by kernel_rfl
theorem hb81 : hasBody Try.prog 81 = true := by kernel_rfl
theorem hb82 : hasBody Try.prog 82 = true := by kernel_rfl
theorem hb83 : hasBody Try.prog 83 = true := by kernel_rfl
theorem hb84 : hasBody Try.prog 84 = true := by kernel_rfl
theorem hb85 : hasBody Try.prog 85 = true := by kernel_rfl
theorem hb86 : hasBody Try.prog 86 = true := by kernel_rfl
theorem hb87 : hasBody Try.prog 87 = true := by kernel_rfl
theorem hb88 : hasBody Try.prog 88 = true := by kernel_rfl
theorem hb89 : hasBody Try.prog 89 = true := by kernel_rfl
theorem hb9 : hasBody Try.prog 9 = true := by kernel_rfl
theorem hb90 : hasBody Try.prog 90 = true := by kernel_rfl
theorem hb91 : hasBody Try.prog 91 = true := by kernel_rfl
theorem hb92 : hasBody Try.prog 92 = true := by kernel_rfl
theorem hb93 : hasBody Try.prog 93 = true := by kernel_rfl
theorem hb94 : hasBody Try.prog 94 = true := by kernel_rfl
theorem hb95 : hasBody Try.prog 95 = true := by kernel_rfl
theorem hb97 : hasBody Try.prog 97 = true := by kernel_rfl
theorem hb98 : hasBody Try.prog 98 = true := by kernel_rfl
theorem hb99 : hasBody Try.prog 99 = true := by kernel_rfl
theorem mt95 : mapT Try.prog 95 = some (9, 3) := by kernel_rfl
theorem nb109 : hasBody Try.prog 109 = false := by kernel_rfl
theorem nb110 : hasBody Try.prog 110 = false := by kernel_rfl
theorem pl25_0 : placeT Try.prog 25 0 = some (0, 1) := by kernel_rfl
theorem pl25_1 : placeT Try.prog 25 1 = some (1, 1) := by kernel_rfl
theorem pl34_0 : placeT Try.prog 34 0 = some (0, 1) := by kernel_rfl
theorem pl34_1 : placeT Try.prog 34 1 = some (1, 1) := by kernel_rfl
theorem pl37_0 : placeT Try.prog 37 0 = some (0, 1) := by kernel_rfl
theorem pl37_1 : placeT Try.prog 37 1 = some (1, 1) := by kernel_rfl
theorem pl37_2 : placeT Try.prog 37 2 = some (2, 2) := by kernel_rfl
theorem pl37_3 : placeT Try.prog 37 3 = some (4, 1) := by kernel_rfl
theorem pl37_4 : placeT Try.prog 37 4 = some (5, 1) := by kernel_rfl
theorem pl37_5 : placeT Try.prog 37 5 = some (6, 1) := by kernel_rfl
theorem pl37_6 : placeT Try.prog 37 6 = some (7, 1) := by kernel_rfl
theorem pl43_0 : placeT Try.prog 43 0 = some (0, 1) := by kernel_rfl
theorem pl43_1 : placeT Try.prog 43 1 = some (1, 2) := by kernel_rfl
theorem pl43_2 : placeT Try.prog 43 2 = some (3, 1) := by kernel_rfl
theorem pl43_3 : placeT Try.prog 43 3 = some (4, 1) := by kernel_rfl
theorem pl62_0 : placeT Try.prog 62 0 = some (0, 1) := by kernel_rfl
theorem pl62_1 : placeT Try.prog 62 1 = some (1, 1) := by kernel_rfl
theorem pl62_2 : placeT Try.prog 62 2 = some (2, 1) := by kernel_rfl
theorem sz22 : szT Try.prog 22 = some 1 := by kernel_rfl
theorem sz28 : szT Try.prog 28 = some 1 := by kernel_rfl
theorem sz3 : szT Try.prog 3 = some 1 := by kernel_rfl
theorem sz34 : szT Try.prog 34 = some 2 := by kernel_rfl
theorem sz35 : szT Try.prog 35 = some 1 := by kernel_rfl
theorem sz37 : szT Try.prog 37 = some 8 := by kernel_rfl
theorem sz43 : szT Try.prog 43 = some 5 := by kernel_rfl
theorem sz62 : szT Try.prog 62 = some 3 := by kernel_rfl
theorem sz9 : szT Try.prog 9 = some 1 := by kernel_rfl
theorem sz95 : szT Try.prog 95 = some 1 := by kernel_rfl
theorem un128 : (Try.prog).underlying 128 = some (.int .u64) := by kernel_rfl
theorem un22 : (Try.prog).underlying 22 = some (.slice 3) := by kernel_rfl
theorem un26 : (Try.prog).underlying 26 = some (.slice 43) := by kernel_rfl
theorem un27 : (Try.prog).underlying 27 = some (.slice 37) := by kernel_rfl
theorem un3 : (Try.prog).underlying 3 = some (.int .i64) := by kernel_rfl
theorem un35 : (Try.prog).underlying 35 = some (.slice 9) := by kernel_rfl
theorem un49 : (Try.prog).underlying 49 = some (.slice 62) := by kernel_rfl
theorem un87 : (Try.prog).underlying 87 = some (.slice 28) := by kernel_rfl
theorem un9 : (Try.prog).underlying 9 = some .string := by kernel_rfl
theorem z37 : zeroCells Try.prog 37 = some [.d (.str ⟨#[]⟩), .d (.str ⟨#[]⟩), .d (.int .i64 0), .d (.int .i64 0), .nil, .d (.int .i64 0), .d (.int .i64 0), .d (.int .i64 0)] := by kernel_rfl
theorem z43 : zeroCells Try.prog 43 = some [.d (.str ⟨#[]⟩), .d (.int .i64 0), .d (.int .i64 0), .d (.int .i64 0), .nil] := by kernel_rfl
theorem z62 : zeroCells Try.prog 62 = some [.d (.str ⟨#[]⟩), .d (.str ⟨#[]⟩), .d (.int .i64 0)] := by kernel_rfl
theorem z9 : zeroCells Try.prog 9 = some [.d (.str ⟨#[]⟩)] := by kernel_rfl
theorem z95 : zeroCells Try.prog 95 = some [.nilm] := by kernel_rfl
end Go.Proofs.Ytkjnmkompibhgaa.Law
