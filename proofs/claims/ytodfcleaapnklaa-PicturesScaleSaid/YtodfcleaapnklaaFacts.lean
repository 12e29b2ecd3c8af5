/-
  Closed facts on the types and functions of the program.
-/
import Derived.Test.YtodfcleaapnklaaProg
import Derived.Test.YtodfcleaapnklaaEng4
open Go Go.Eng Go.Proofs
namespace Go.Proofs.Ytodfcleaapnklaa.Law
set_option maxRecDepth 100000
set_option linter.unusedVariables false
set_option maxHeartbeats 1000000
theorem ag189 : isAggT Try.prog 189 = true := by kernel_rfl
theorem ag22 : isAggT Try.prog 22 = false := by kernel_rfl
theorem ag3 : isAggT Try.prog 3 = false := by kernel_rfl
theorem ag92 : isAggT Try.prog 92 = true := by kernel_rfl
theorem ag94 : isAggT Try.prog 94 = false := by kernel_rfl
theorem by189 : bytesT Try.prog 189 = 16 := by kernel_rfl
theorem by3 : bytesT Try.prog 3 = 8 := by kernel_rfl
theorem by92 : bytesT Try.prog 92 = 32 := by kernel_rfl
theorem el184 : elemT Try.prog 184 = some 189 := by kernel_rfl
theorem el22 : elemT Try.prog 22 = some 3 := by kernel_rfl
theorem el94 : elemT Try.prog 94 = some 92 := by kernel_rfl
theorem es184 : (elemT Try.prog 184).bind (szT Try.prog) = some 2 := by kernel_rfl
theorem es196 : (elemT Try.prog 196).bind (szT Try.prog) = some 1 := by kernel_rfl
theorem es22 : (elemT Try.prog 22).bind (szT Try.prog) = some 1 := by kernel_rfl
theorem es94 : (elemT Try.prog 94).bind (szT Try.prog) = some 4 := by kernel_rfl
theorem ez184 : ((elemT Try.prog 184).bind (zeroCells Try.prog)).isSome = true := by kernel_rfl
theorem ez196 : ((elemT Try.prog 196).bind (zeroCells Try.prog)).isSome = true := by kernel_rfl
theorem ez22 : ((elemT Try.prog 22).bind (zeroCells Try.prog)).isSome = true := by kernel_rfl
theorem ez94 : ((elemT Try.prog 94).bind (zeroCells Try.prog)).isSome = true := by kernel_rfl
theorem hb10 : hasBody Try.prog 10 = true := by kernel_rfl
theorem hb106 : hasBody Try.prog 106 = true := by kernel_rfl
theorem hb129 : hasBody Try.prog 129 = true := by kernel_rfl
theorem hb131 : hasBody Try.prog 131 = true := by kernel_rfl
theorem hb132 : hasBody Try.prog 132 = true := by kernel_rfl
theorem hb136 : hasBody Try.prog 136 = true := by kernel_rfl
theorem hb138 : hasBody Try.prog 138 = true := by kernel_rfl
theorem hb139 : hasBody Try.prog 139 = true := by kernel_rfl
theorem hb140 : hasBody Try.prog 140 = true := by kernel_rfl
theorem hb141 : hasBody Try.prog 141 = true := by kernel_rfl
theorem hb142 : hasBody Try.prog 142 = true := by kernel_rfl
theorem hb143 : hasBody Try.prog 143 = true := by kernel_rfl
theorem hb144 : hasBody Try.prog 144 = true := by kernel_rfl
theorem hb145 : hasBody Try.prog 145 = true := by kernel_rfl
theorem hb146 : hasBody Try.prog 146 = true := by kernel_rfl
theorem hb147 : hasBody Try.prog 147 = true := by kernel_rfl
theorem hb163 : hasBody Try.prog 163 = true := by kernel_rfl
theorem hb165 : hasBody Try.prog 165 = true := by kernel_rfl
theorem hb169 : hasBody Try.prog 169 = true := by kernel_rfl
theorem hb170 : hasBody Try.prog 170 = true := by kernel_rfl
theorem hb171 : hasBody Try.prog 171 = true := by kernel_rfl
theorem hb172 : hasBody Try.prog 172 = true := by kernel_rfl
theorem hb173 : hasBody Try.prog 173 = true := by kernel_rfl
theorem hb182 : hasBody Try.prog 182 = true := by kernel_rfl
theorem hb199 : hasBody Try.prog 199 = true := by kernel_rfl
theorem hb202 : hasBody Try.prog 202 = true := by kernel_rfl
theorem hb203 : hasBody Try.prog 203 = true := by kernel_rfl
theorem hb204 : hasBody Try.prog 204 = true := by kernel_rfl
theorem hb208 : hasBody Try.prog 208 = true := by kernel_rfl
theorem hb215 : hasBody Try.prog 215 = true := by kernel_rfl
theorem hb223 : hasBody Try.prog 223 = true := by kernel_rfl
theorem hb228 : hasBody Try.prog 228 = true := by kernel_rfl
theorem hb37 : hasBody Try.prog 37 = true := by kernel_rfl
theorem hb56 : hasBody Try.prog 56 = true := by kernel_rfl
theorem hb57 : hasBody Try.prog 57 = true := by kernel_rfl
theorem hb58 : hasBody Try.prog 58 = true := by kernel_rfl
theorem hb65 : hasBody Try.prog 65 = true := by kernel_rfl
theorem hb66 : hasBody Try.prog 66 = true := by kernel_rfl
theorem hb67 : hasBody Try.prog 67 = true := by kernel_rfl
theorem hb68 : hasBody Try.prog 68 = true := by kernel_rfl
theorem hb69 : hasBody Try.prog 69 = true := by kernel_rfl
theorem hb70 : hasBody Try.prog 70 = true := by kernel_rfl
theorem hb71 : hasBody Try.prog 71 = true := by kernel_rfl
theorem hb72 : hasBody Try.prog 72 = true := by kernel_rfl
theorem hb73 : hasBody Try.prog 73 = true := by kernel_rfl
theorem hb75 : hasBody Try.prog 75 = true := by kernel_rfl
theorem hb82 : hasBody Try.prog 82 = true := by kernel_rfl
theorem hb84 : hasBody Try.prog 84 = true := by kernel_rfl
theorem pl189_0 : placeT Try.prog 189 0 = some (0, 1) := by kernel_rfl
theorem pl189_1 : placeT Try.prog 189 1 = some (1, 1) := by kernel_rfl
theorem pl25_0 : placeT Try.prog 25 0 = some (0, 1) := by kernel_rfl
theorem pl25_1 : placeT Try.prog 25 1 = some (1, 1) := by kernel_rfl
theorem pl92_0 : placeT Try.prog 92 0 = some (0, 1) := by kernel_rfl
theorem pl92_1 : placeT Try.prog 92 1 = some (1, 1) := by kernel_rfl
theorem pl92_2 : placeT Try.prog 92 2 = some (2, 1) := by kernel_rfl
theorem pl92_3 : placeT Try.prog 92 3 = some (3, 1) := by kernel_rfl
theorem sz189 : szT Try.prog 189 = some 2 := by kernel_rfl
theorem sz22 : szT Try.prog 22 = some 1 := by kernel_rfl
theorem sz3 : szT Try.prog 3 = some 1 := by kernel_rfl
theorem sz92 : szT Try.prog 92 = some 4 := by kernel_rfl
theorem sz94 : szT Try.prog 94 = some 1 := by kernel_rfl
theorem un180 : (Try.prog).underlying 180 = some (.int .u64) := by kernel_rfl
theorem un184 : (Try.prog).underlying 184 = some (.slice 189) := by kernel_rfl
theorem un196 : (Try.prog).underlying 196 = some (.slice 94) := by kernel_rfl
theorem un211 : (Try.prog).underlying 211 = some (.int .u64) := by kernel_rfl
theorem un22 : (Try.prog).underlying 22 = some (.slice 3) := by kernel_rfl
theorem un3 : (Try.prog).underlying 3 = some (.int .i64) := by kernel_rfl
theorem un5 : (Try.prog).underlying 5 = some (.int .u8) := by kernel_rfl
theorem un9 : (Try.prog).underlying 9 = some .string := by kernel_rfl
theorem un94 : (Try.prog).underlying 94 = some (.slice 92) := by kernel_rfl
theorem z189 : zeroCells Try.prog 189 = some [.d (.int .i64 0), .d (.int .i64 0)] := by kernel_rfl
theorem z3 : zeroCells Try.prog 3 = some [.d (.int .i64 0)] := by kernel_rfl
theorem z92 : zeroCells Try.prog 92 = some [.d (.int .i64 0), .d (.int .i64 0), .d (.int .i64 0), .d (.int .i64 0)] := by kernel_rfl
end Go.Proofs.Ytodfcleaapnklaa.Law
