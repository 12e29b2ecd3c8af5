/-
  Closed facts on the types and functions of the program.
-/
import Derived.Test.YtjmpbmnakfipdaaDoorProg
import Derived.Test.YtjmpbmnakfipdaaDoorEng5
open Go Go.Eng Go.Proofs
namespace Go.Proofs.YtjmpbmnakfipdaaDoor.Law
set_option maxRecDepth 100000
set_option linter.unusedVariables false
set_option maxHeartbeats 1000000
theorem ag22 : isAggT Tryd.prog 22 = false := by kernel_rfl
theorem ag26 : isAggT Tryd.prog 26 = false := by kernel_rfl
theorem ag28 : isAggT Tryd.prog 28 = false := by kernel_rfl
theorem ag3 : isAggT Tryd.prog 3 = false := by kernel_rfl
theorem ag33 : isAggT Tryd.prog 33 = false := by kernel_rfl
theorem ag46 : isAggT Tryd.prog 46 = true := by kernel_rfl
theorem ag47 : isAggT Tryd.prog 47 = false := by kernel_rfl
theorem ag49 : isAggT Tryd.prog 49 = true := by kernel_rfl
theorem ag58 : isAggT Tryd.prog 58 = true := by kernel_rfl
theorem ag62 : isAggT Tryd.prog 62 = true := by kernel_rfl
theorem ag71 : isAggT Tryd.prog 71 = true := by kernel_rfl
theorem ag9 : isAggT Tryd.prog 9 = false := by kernel_rfl
theorem by49 : bytesT Tryd.prog 49 = 96 := by kernel_rfl
theorem by58 : bytesT Tryd.prog 58 = 32 := by kernel_rfl
theorem by62 : bytesT Tryd.prog 62 = 32 := by kernel_rfl
theorem by71 : bytesT Tryd.prog 71 = 48 := by kernel_rfl
theorem by9 : bytesT Tryd.prog 9 = 16 := by kernel_rfl
theorem el26 : elemT Tryd.prog 26 = some 49 := by kernel_rfl
theorem el28 : elemT Tryd.prog 28 = some 71 := by kernel_rfl
theorem el32 : elemT Tryd.prog 32 = some 58 := by kernel_rfl
theorem el38 : elemT Tryd.prog 38 = some 62 := by kernel_rfl
theorem el47 : elemT Tryd.prog 47 = some 9 := by kernel_rfl
theorem es22 : (elemT Tryd.prog 22).bind (szT Tryd.prog) = some 1 := by kernel_rfl
theorem es26 : (elemT Tryd.prog 26).bind (szT Tryd.prog) = some 8 := by kernel_rfl
theorem es28 : (elemT Tryd.prog 28).bind (szT Tryd.prog) = some 4 := by kernel_rfl
theorem es32 : (elemT Tryd.prog 32).bind (szT Tryd.prog) = some 3 := by kernel_rfl
theorem es38 : (elemT Tryd.prog 38).bind (szT Tryd.prog) = some 2 := by kernel_rfl
theorem es47 : (elemT Tryd.prog 47).bind (szT Tryd.prog) = some 1 := by kernel_rfl
theorem es69 : (elemT Tryd.prog 69).bind (szT Tryd.prog) = some 1 := by kernel_rfl
theorem es74 : (elemT Tryd.prog 74).bind (szT Tryd.prog) = some 1 := by kernel_rfl
theorem ez22 : ((elemT Tryd.prog 22).bind (zeroCells Tryd.prog)).isSome = true := by kernel_rfl
theorem ez26 : ((elemT Tryd.prog 26).bind (zeroCells Tryd.prog)).isSome = true := by kernel_rfl
theorem ez28 : ((elemT Tryd.prog 28).bind (zeroCells Tryd.prog)).isSome = true := by kernel_rfl
theorem ez32 : ((elemT Tryd.prog 32).bind (zeroCells Tryd.prog)).isSome = true := by kernel_rfl
theorem ez38 : ((elemT Tryd.prog 38).bind (zeroCells Tryd.prog)).isSome = true := by kernel_rfl
theorem ez47 : ((elemT Tryd.prog 47).bind (zeroCells Tryd.prog)).isSome = true := by kernel_rfl
theorem ez69 : ((elemT Tryd.prog 69).bind (zeroCells Tryd.prog)).isSome = true := by kernel_rfl
theorem ez74 : ((elemT Tryd.prog 74).bind (zeroCells Tryd.prog)).isSome = true := by kernel_rfl
theorem hb10 : hasBody Tryd.prog 10 = true := by kernel_rfl
theorem hb11 : hasBody Tryd.prog 11 = true := by kernel_rfl
theorem hb12 : hasBody Tryd.prog 12 = true := by kernel_rfl
theorem hb13 : hasBody Tryd.prog 13 = true := by kernel_rfl
theorem hb14 : hasBody Tryd.prog 14 = true := by kernel_rfl
theorem hb15 : hasBody Tryd.prog 15 = true := by kernel_rfl
theorem hb16 : hasBody Tryd.prog 16 = true := by kernel_rfl
theorem hb17 : hasBody Tryd.prog 17 = true := by kernel_rfl
theorem hb18 : hasBody Tryd.prog 18 = true := by kernel_rfl
theorem hb19 : hasBody Tryd.prog 19 = true := by kernel_rfl
theorem hb20 : hasBody Tryd.prog 20 = true := by kernel_rfl
theorem hb21 : hasBody Tryd.prog 21 = true := by kernel_rfl
theorem hb22 : hasBody Tryd.prog 22 = true := by kernel_rfl
theorem hb23 : hasBody Tryd.prog 23 = true := by kernel_rfl
theorem hb24 : hasBody Tryd.prog 24 = true := by kernel_rfl
theorem hb25 : hasBody Tryd.prog 25 = true := by kernel_rfl
theorem hb26 : hasBody Tryd.prog 26 = true := by kernel_rfl
theorem hb27 : hasBody Tryd.prog 27 = true := by kernel_rfl
theorem hb28 : hasBody Tryd.prog 28 = true := by kernel_rfl
theorem hb29 : hasBody Tryd.prog 29 = true := by kernel_rfl
theorem hb30 : hasBody Tryd.prog 30 = true := by kernel_rfl
theorem hb31 : hasBody Tryd.prog 31 = true := by kernel_rfl
theorem hb32 : hasBody Tryd.prog 32 = true := by kernel_rfl
theorem hb33 : hasBody Tryd.prog 33 = true := by kernel_rfl
theorem hb34 : hasBody Tryd.prog 34 = true := by kernel_rfl
theorem hb35 : hasBody Tryd.prog 35 = true := by kernel_rfl
theorem hb36 : hasBody Tryd.prog 36 = true := by kernel_rfl
theorem hb37 : hasBody Tryd.prog 37 = true := by kernel_rfl
theorem hb38 : hasBody Tryd.prog 38 = true := by kernel_rfl
theorem hb39 : hasBody Tryd.prog 39 = true := by kernel_rfl
theorem hb4 : hasBody Tryd.prog 4 = true := by kernel_rfl
theorem hb40 : hasBody Tryd.prog 40 = true := by kernel_rfl
theorem hb41 : hasBody Tryd.prog 41 = true := by kernel_rfl
theorem hb42 : hasBody Tryd.prog 42 = true := by kernel_rfl
theorem hb43 : hasBody Tryd.prog 43 = true := by kernel_rfl
theorem hb45 : hasBody Tryd.prog 45 = true := by kernel_rfl
theorem hb46 : hasBody Tryd.prog 46 = true := by kernel_rfl
theorem hb47 : hasBody Tryd.prog 47 = true := by kernel_rfl
theorem hb48 : hasBody Tryd.prog 48 = true := by kernel_rfl
theorem hb5 : hasBody Tryd.prog 5 = true := by kernel_rfl
theorem hb50 : hasBody Tryd.prog 50 = true := by kernel_rfl
theorem hb51 : hasBody Tryd.prog 51 = true := by kernel_rfl
theorem hb56 : hasBody Tryd.prog 56 = true := by kernel_rfl
theorem hb6 : hasBody Tryd.prog 6 = true := by kernel_rfl
theorem hb7 : hasBody Tryd.prog 7 = true := by kernel_rfl
theorem hb8 : hasBody Tryd.prog 8 = true := by kernel_rfl
theorem hb9 : hasBody Tryd.prog 9 = true := by kernel_rfl
theorem nb62 : hasBody Tryd.prog 62 = false := by kernel_rfl
theorem pl25_0 : placeT Tryd.prog 25 0 = some (0, 1) := by kernel_rfl
theorem pl25_1 : placeT Tryd.prog 25 1 = some (1, 1) := by kernel_rfl
theorem pl46_0 : placeT Tryd.prog 46 0 = some (0, 1) := by kernel_rfl
theorem pl46_1 : placeT Tryd.prog 46 1 = some (1, 1) := by kernel_rfl
theorem pl49_0 : placeT Tryd.prog 49 0 = some (0, 1) := by kernel_rfl
theorem pl49_1 : placeT Tryd.prog 49 1 = some (1, 1) := by kernel_rfl
theorem pl49_2 : placeT Tryd.prog 49 2 = some (2, 2) := by kernel_rfl
theorem pl49_3 : placeT Tryd.prog 49 3 = some (4, 1) := by kernel_rfl
theorem pl49_4 : placeT Tryd.prog 49 4 = some (5, 1) := by kernel_rfl
theorem pl49_5 : placeT Tryd.prog 49 5 = some (6, 1) := by kernel_rfl
theorem pl49_6 : placeT Tryd.prog 49 6 = some (7, 1) := by kernel_rfl
theorem pl58_0 : placeT Tryd.prog 58 0 = some (0, 1) := by kernel_rfl
theorem pl58_1 : placeT Tryd.prog 58 1 = some (1, 1) := by kernel_rfl
theorem pl58_2 : placeT Tryd.prog 58 2 = some (2, 1) := by kernel_rfl
theorem pl71_0 : placeT Tryd.prog 71 0 = some (0, 1) := by kernel_rfl
theorem pl71_1 : placeT Tryd.prog 71 1 = some (1, 1) := by kernel_rfl
theorem pl71_2 : placeT Tryd.prog 71 2 = some (2, 1) := by kernel_rfl
theorem pl71_3 : placeT Tryd.prog 71 3 = some (3, 1) := by kernel_rfl
theorem sz22 : szT Tryd.prog 22 = some 1 := by kernel_rfl
theorem sz26 : szT Tryd.prog 26 = some 1 := by kernel_rfl
theorem sz28 : szT Tryd.prog 28 = some 1 := by kernel_rfl
theorem sz3 : szT Tryd.prog 3 = some 1 := by kernel_rfl
theorem sz33 : szT Tryd.prog 33 = some 1 := by kernel_rfl
theorem sz46 : szT Tryd.prog 46 = some 2 := by kernel_rfl
theorem sz47 : szT Tryd.prog 47 = some 1 := by kernel_rfl
theorem sz49 : szT Tryd.prog 49 = some 8 := by kernel_rfl
theorem sz58 : szT Tryd.prog 58 = some 3 := by kernel_rfl
theorem sz62 : szT Tryd.prog 62 = some 2 := by kernel_rfl
theorem sz71 : szT Tryd.prog 71 = some 4 := by kernel_rfl
theorem sz9 : szT Tryd.prog 9 = some 1 := by kernel_rfl
theorem un22 : (Tryd.prog).underlying 22 = some (.slice 3) := by kernel_rfl
theorem un26 : (Tryd.prog).underlying 26 = some (.slice 49) := by kernel_rfl
theorem un28 : (Tryd.prog).underlying 28 = some (.slice 71) := by kernel_rfl
theorem un32 : (Tryd.prog).underlying 32 = some (.slice 58) := by kernel_rfl
theorem un38 : (Tryd.prog).underlying 38 = some (.slice 62) := by kernel_rfl
theorem un4 : (Tryd.prog).underlying 4 = some .bool := by kernel_rfl
theorem un47 : (Tryd.prog).underlying 47 = some (.slice 9) := by kernel_rfl
theorem un74 : (Tryd.prog).underlying 74 = some (.slice 33) := by kernel_rfl
theorem un9 : (Tryd.prog).underlying 9 = some .string := by kernel_rfl
theorem z49 : zeroCells Tryd.prog 49 = some [.d (.str ⟨#[]⟩), .d (.str ⟨#[]⟩), .d (.int .i64 0), .d (.int .i64 0), .nil, .d (.int .i64 0), .d (.int .i64 0), .d (.int .i64 0)] := by kernel_rfl
theorem z58 : zeroCells Tryd.prog 58 = some [.d (.str ⟨#[]⟩), .d (.int .i64 0), .d (.int .i64 0)] := by kernel_rfl
theorem z62 : zeroCells Tryd.prog 62 = some [.d (.str ⟨#[]⟩), .d (.str ⟨#[]⟩)] := by kernel_rfl
theorem z71 : zeroCells Tryd.prog 71 = some [.d (.str ⟨#[]⟩), .d (.str ⟨#[]⟩), .d (.int .i64 0), .d (.int .i64 0)] := by kernel_rfl
theorem z9 : zeroCells Tryd.prog 9 = some [.d (.str ⟨#[]⟩)] := by kernel_rfl
theorem laid_pow10 : ∀ w0, Go.Eng.laidK w0 → Go.Lib.TabIs Tryd.prog w0 "internal/strconv.uint64pow10" .u64 Go.Lib.pow10Tab := fun _ h => h
end Go.Proofs.YtjmpbmnakfipdaaDoor.Law

