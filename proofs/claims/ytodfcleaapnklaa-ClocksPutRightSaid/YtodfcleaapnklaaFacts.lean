/-
  Closed facts on the types and functions of the program.
-/
import Derived.Test.YtodfcleaapnklaaProg
import Derived.Test.YtodfcleaapnklaaEng3
open Go Go.Eng Go.Proofs
namespace Go.Proofs.Ytodfcleaapnklaa.Law
set_option maxRecDepth 100000
set_option linter.unusedVariables false
set_option maxHeartbeats 1000000
theorem ag119 : isAggT Try.prog 119 = true := by kernel_rfl
theorem ag125 : isAggT Try.prog 125 = true := by kernel_rfl
theorem ag22 : isAggT Try.prog 22 = false := by kernel_rfl
theorem ag3 : isAggT Try.prog 3 = false := by kernel_rfl
theorem ag30 : isAggT Try.prog 30 = false := by kernel_rfl
theorem ag34 : isAggT Try.prog 34 = true := by kernel_rfl
theorem ag9 : isAggT Try.prog 9 = false := by kernel_rfl
theorem by119 : bytesT Try.prog 119 = 32 := by kernel_rfl
theorem by125 : bytesT Try.prog 125 = 16 := by kernel_rfl
theorem el122 : elemT Try.prog 122 = some 125 := by kernel_rfl
theorem el26 : elemT Try.prog 26 = some 119 := by kernel_rfl
theorem es122 : (elemT Try.prog 122).bind (szT Try.prog) = some 2 := by kernel_rfl
theorem es129 : (elemT Try.prog 129).bind (szT Try.prog) = some 1 := by kernel_rfl
theorem es22 : (elemT Try.prog 22).bind (szT Try.prog) = some 1 := by kernel_rfl
theorem es26 : (elemT Try.prog 26).bind (szT Try.prog) = some 3 := by kernel_rfl
theorem es46 : (elemT Try.prog 46).bind (szT Try.prog) = some 1 := by kernel_rfl
theorem ez122 : ((elemT Try.prog 122).bind (zeroCells Try.prog)).isSome = true := by kernel_rfl
theorem ez129 : ((elemT Try.prog 129).bind (zeroCells Try.prog)).isSome = true := by kernel_rfl
theorem ez22 : ((elemT Try.prog 22).bind (zeroCells Try.prog)).isSome = true := by kernel_rfl
theorem ez26 : ((elemT Try.prog 26).bind (zeroCells Try.prog)).isSome = true := by kernel_rfl
theorem ez46 : ((elemT Try.prog 46).bind (zeroCells Try.prog)).isSome = true := by kernel_rfl
theorem hb10 : hasBody Try.prog 10 = true := by kernel_rfl
theorem hb106 : hasBody Try.prog 106 = true := by kernel_rfl
theorem hb11 : hasBody Try.prog 11 = true := by kernel_rfl
theorem hb110 : hasBody Try.prog 110 = true := by kernel_rfl
theorem hb111 : hasBody Try.prog 111 = true := by kernel_rfl
theorem hb112 : hasBody Try.prog 112 = true := by kernel_rfl
theorem hb12 : hasBody Try.prog 12 = true := by kernel_rfl
theorem hb13 : hasBody Try.prog 13 = true := by kernel_rfl
theorem hb14 : hasBody Try.prog 14 = true := by kernel_rfl
theorem hb147 : hasBody Try.prog 147 = true := by kernel_rfl
theorem hb148 : hasBody Try.prog 148 = true := by kernel_rfl
theorem hb149 : hasBody Try.prog 149 = true := by kernel_rfl
theorem hb15 : hasBody Try.prog 15 = true := by kernel_rfl
theorem hb150 : hasBody Try.prog 150 = true := by kernel_rfl
theorem hb151 : hasBody Try.prog 151 = true := by kernel_rfl
theorem hb152 : hasBody Try.prog 152 = true := by kernel_rfl
theorem hb153 : hasBody Try.prog 153 = true := by kernel_rfl
theorem hb16 : hasBody Try.prog 16 = true := by kernel_rfl
theorem hb164 : hasBody Try.prog 164 = true := by kernel_rfl
theorem hb165 : hasBody Try.prog 165 = true := by kernel_rfl
theorem hb17 : hasBody Try.prog 17 = true := by kernel_rfl
theorem hb18 : hasBody Try.prog 18 = true := by kernel_rfl
theorem hb183 : hasBody Try.prog 183 = true := by kernel_rfl
theorem hb184 : hasBody Try.prog 184 = true := by kernel_rfl
theorem hb19 : hasBody Try.prog 19 = true := by kernel_rfl
theorem hb20 : hasBody Try.prog 20 = true := by kernel_rfl
theorem hb21 : hasBody Try.prog 21 = true := by kernel_rfl
theorem hb22 : hasBody Try.prog 22 = true := by kernel_rfl
theorem hb23 : hasBody Try.prog 23 = true := by kernel_rfl
theorem hb37 : hasBody Try.prog 37 = true := by kernel_rfl
theorem hb38 : hasBody Try.prog 38 = true := by kernel_rfl
theorem hb74 : hasBody Try.prog 74 = true := by kernel_rfl
theorem hb75 : hasBody Try.prog 75 = true := by kernel_rfl
theorem hb76 : hasBody Try.prog 76 = true := by kernel_rfl
theorem hb77 : hasBody Try.prog 77 = true := by kernel_rfl
theorem hb78 : hasBody Try.prog 78 = true := by kernel_rfl
theorem hb79 : hasBody Try.prog 79 = true := by kernel_rfl
theorem hb8 : hasBody Try.prog 8 = true := by kernel_rfl
theorem hb80 : hasBody Try.prog 80 = true := by kernel_rfl
theorem hb81 : hasBody Try.prog 81 = true := by kernel_rfl
theorem hb82 : hasBody Try.prog 82 = true := by kernel_rfl
theorem hb83 : hasBody Try.prog 83 = true := by kernel_rfl
theorem hb84 : hasBody Try.prog 84 = true := by kernel_rfl
theorem hb85 : hasBody Try.prog 85 = true := by kernel_rfl
theorem hb86 : hasBody Try.prog 86 = true := by kernel_rfl
theorem hb87 : hasBody Try.prog 87 = true := by kernel_rfl
theorem hb88 : hasBody Try.prog 88 = true := by kernel_rfl
theorem hb9 : hasBody Try.prog 9 = true := by kernel_rfl
theorem nb200 : hasBody Try.prog 200 = false := by kernel_rfl
theorem nb206 : hasBody Try.prog 206 = false := by kernel_rfl
theorem pl119_0 : placeT Try.prog 119 0 = some (0, 1) := by kernel_rfl
theorem pl119_1 : placeT Try.prog 119 1 = some (1, 1) := by kernel_rfl
theorem pl119_2 : placeT Try.prog 119 2 = some (2, 1) := by kernel_rfl
theorem pl125_0 : placeT Try.prog 125 0 = some (0, 1) := by kernel_rfl
theorem pl125_1 : placeT Try.prog 125 1 = some (1, 1) := by kernel_rfl
theorem pl25_0 : placeT Try.prog 25 0 = some (0, 1) := by kernel_rfl
theorem pl25_1 : placeT Try.prog 25 1 = some (1, 1) := by kernel_rfl
theorem sz119 : szT Try.prog 119 = some 3 := by kernel_rfl
theorem sz125 : szT Try.prog 125 = some 2 := by kernel_rfl
theorem sz22 : szT Try.prog 22 = some 1 := by kernel_rfl
theorem sz3 : szT Try.prog 3 = some 1 := by kernel_rfl
theorem sz30 : szT Try.prog 30 = some 1 := by kernel_rfl
theorem sz34 : szT Try.prog 34 = some 2 := by kernel_rfl
theorem sz9 : szT Try.prog 9 = some 1 := by kernel_rfl
theorem un122 : (Try.prog).underlying 122 = some (.slice 125) := by kernel_rfl
theorem un129 : (Try.prog).underlying 129 = some (.slice 30) := by kernel_rfl
theorem un22 : (Try.prog).underlying 22 = some (.slice 3) := by kernel_rfl
theorem un26 : (Try.prog).underlying 26 = some (.slice 119) := by kernel_rfl
theorem un46 : (Try.prog).underlying 46 = some (.slice 9) := by kernel_rfl
theorem un9 : (Try.prog).underlying 9 = some .string := by kernel_rfl
theorem z119 : zeroCells Try.prog 119 = some [.d (.str ⟨#[]⟩), .d (.int .i64 0), .d (.int .i64 0)] := by kernel_rfl
theorem z125 : zeroCells Try.prog 125 = some [.d (.int .i64 0), .d (.int .i64 0)] := by kernel_rfl
theorem z34 : zeroCells Try.prog 34 = some [.d (.int .i64 0), .d (.int .i64 0)] := by kernel_rfl
end Go.Proofs.Ytodfcleaapnklaa.Law
