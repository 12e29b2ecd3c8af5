/-
  Closed facts on the types and functions of the program.
-/
import Derived.Test.YtodfcleaapnklaaProg
import Derived.Test.YtodfcleaapnklaaEng4
open Go Go.Eng Go.Proofs
namespace Go.Proofs.Ytodfcleaapnklaa.Law
set_option maxRecDepth 100000
set_option linter.unusedVariables false
set_option maxHeartbeats 1000000
theorem ag189 : isAggT Try.prog 189 = true := by kernel_rfl
theorem ag22 : isAggT Try.prog 22 = false := by kernel_rfl
theorem ag3 : isAggT Try.prog 3 = false := by kernel_rfl
theorem ag30 : isAggT Try.prog 30 = false := by kernel_rfl
theorem ag92 : isAggT Try.prog 92 = true := by kernel_rfl
theorem ag94 : isAggT Try.prog 94 = false := by kernel_rfl
theorem by189 : bytesT Try.prog 189 = 16 := by kernel_rfl
theorem by3 : bytesT Try.prog 3 = 8 := by kernel_rfl
theorem by92 : bytesT Try.prog 92 = 32 := by kernel_rfl
theorem el184 : elemT Try.prog 184 = some 189 := by kernel_rfl
theorem el22 : elemT Try.prog 22 = some 3 := by kernel_rfl
theorem el94 : elemT Try.prog 94 = some 92 := by kernel_rfl
theorem es129 : (elemT Try.prog 129).bind (szT Try.prog) = some 1 := by kernel_rfl
theorem es184 : (elemT Try.prog 184).bind (szT Try.prog) = some 2 := by kernel_rfl
theorem es196 : (elemT Try.prog 196).bind (szT Try.prog) = some 1 := by kernel_rfl
theorem es22 : (elemT Try.prog 22).bind (szT Try.prog) = some 1 := by kernel_rfl
theorem es94 : (elemT Try.prog 94).bind (szT Try.prog) = some 4 := by kernel_rfl
theorem ez129 : ((elemT Try.prog 129).bind (zeroCells Try.prog)).isSome = true := by kernel_rfl
theorem ez184 : ((elemT Try.prog 184).bind (zeroCells Try.prog)).isSome = true := by kernel_rfl
theorem ez196 : ((elemT Try.prog 196).bind (zeroCells Try.prog)).isSome = true := by kernel_rfl
theorem ez22 : ((elemT Try.prog 22).bind (zeroCells Try.prog)).isSome = true := by kernel_rfl
theorem ez94 : ((elemT Try.prog 94).bind (zeroCells Try.prog)).isSome = true := by kernel_rfl
theorem hb10 : hasBody Try.prog 10 = true := by kernel_rfl
theorem hb106 : hasBody Try.prog 106 = true := by kernel_rfl
theorem hb127 : hasBody Try.prog 127 = true := by kernel_rfl
theorem hb128 : hasBody Try.prog 128 = true := by kernel_rfl
theorem hb129 : hasBody Try.prog 129 = true := by kernel_rfl
theorem hb130 : hasBody Try.prog 130 = true := by kernel_rfl
theorem hb131 : hasBody Try.prog 131 = true := by kernel_rfl
theorem hb132 : hasBody Try.prog 132 = true := by kernel_rfl
theorem hb133 : hasBody Try.prog 133 = true := by kernel_rfl
theorem hb134 : hasBody Try.prog 134 = true := by kernel_rfl
theorem hb135 : hasBody Try.prog 135 = true := by kernel_rfl
theorem hb136 : hasBody Try.prog 136 = true := by kernel_rfl
theorem hb137 : hasBody Try.prog 137 = true := by kernel_rfl
theorem hb147 : hasBody Try.prog 147 = true := by kernel_rfl
theorem hb16 : hasBody Try.prog 16 = true := by kernel_rfl
theorem hb163 : hasBody Try.prog 163 = true := by kernel_rfl
theorem hb169 : hasBody Try.prog 169 = true := by kernel_rfl
theorem hb170 : hasBody Try.prog 170 = true := by kernel_rfl
theorem hb171 : hasBody Try.prog 171 = true := by kernel_rfl
theorem hb172 : hasBody Try.prog 172 = true := by kernel_rfl
theorem hb173 : hasBody Try.prog 173 = true := by kernel_rfl
theorem hb174 : hasBody Try.prog 174 = true := by kernel_rfl
theorem hb175 : hasBody Try.prog 175 = true := by kernel_rfl
theorem hb176 : hasBody Try.prog 176 = true := by kernel_rfl
theorem hb177 : hasBody Try.prog 177 = true := by kernel_rfl
theorem hb178 : hasBody Try.prog 178 = true := by kernel_rfl
theorem hb179 : hasBody Try.prog 179 = true := by kernel_rfl
theorem hb180 : hasBody Try.prog 180 = true := by kernel_rfl
theorem hb181 : hasBody Try.prog 181 = true := by kernel_rfl
theorem hb182 : hasBody Try.prog 182 = true := by kernel_rfl
theorem hb199 : hasBody Try.prog 199 = true := by kernel_rfl
theorem hb203 : hasBody Try.prog 203 = true := by kernel_rfl
theorem hb204 : hasBody Try.prog 204 = true := by kernel_rfl
theorem hb205 : hasBody Try.prog 205 = true := by kernel_rfl
theorem hb223 : hasBody Try.prog 223 = true := by kernel_rfl
theorem hb228 : hasBody Try.prog 228 = true := by kernel_rfl
theorem hb37 : hasBody Try.prog 37 = true := by kernel_rfl
theorem hb38 : hasBody Try.prog 38 = true := by kernel_rfl
theorem hb51 : hasBody Try.prog 51 = true := by kernel_rfl
theorem hb52 : hasBody Try.prog 52 = true := by kernel_rfl
theorem hb53 : hasBody Try.prog 53 = true := by kernel_rfl
theorem hb54 : hasBody Try.prog 54 = true := by kernel_rfl
theorem hb55 : hasBody Try.prog 55 = true := by kernel_rfl
theorem hb56 : hasBody Try.prog 56 = true := by kernel_rfl
theorem hb57 : hasBody Try.prog 57 = true := by kernel_rfl
theorem hb58 : hasBody Try.prog 58 = true := by kernel_rfl
theorem hb59 : hasBody Try.prog 59 = true := by kernel_rfl
theorem hb60 : hasBody Try.prog 60 = true := by kernel_rfl
theorem hb61 : hasBody Try.prog 61 = true := by kernel_rfl
theorem hb62 : hasBody Try.prog 62 = true := by kernel_rfl
theorem hb63 : hasBody Try.prog 63 = true := by kernel_rfl
theorem hb64 : hasBody Try.prog 64 = true := by kernel_rfl
theorem hb65 : hasBody Try.prog 65 = true := by kernel_rfl
theorem hb75 : hasBody Try.prog 75 = true := by kernel_rfl
theorem hb82 : hasBody Try.prog 82 = true := by kernel_rfl
theorem hb84 : hasBody Try.prog 84 = true := by kernel_rfl
theorem pl189_0 : placeT Try.prog 189 0 = some (0, 1) := by kernel_rfl
theorem pl189_1 : placeT Try.prog 189 1 = some (1, 1) := by kernel_rfl
theorem pl25_0 : placeT Try.prog 25 0 = some (0, 1) := by kernel_rfl
theorem pl25_1 : placeT Try.prog 25 1 = some (1, 1) := by kernel_rfl
theorem pl92_0 : placeT Try.prog 92 0 = some (0, 1) := by kernel_rfl
theorem pl92_1 : placeT Try.prog 92 1 = some (1, 1) := by kernel_rfl
theorem pl92_2 : placeT Try.prog 92 2 = some (2, 1) := by kernel_rfl
theorem pl92_3 : placeT Try.prog 92 3 = some (3, 1) := by kernel_rfl
theorem sz189 : szT Try.prog 189 = some 2 := by kernel_rfl
theorem sz22 : szT Try.prog 22 = some 1 := by kernel_rfl
theorem sz3 : szT Try.prog 3 = some 1 := by kernel_rfl
theorem sz30 : szT Try.prog 30 = some 1 := by kernel_rfl
theorem sz92 : szT Try.prog 92 = some 4 := by kernel_rfl
theorem sz94 : szT Try.prog 94 = some 1 := by kernel_rfl
theorem un129 : (Try.prog).underlying 129 = some (.slice 30) := by kernel_rfl
theorem un160 : (Try.prog).underlying 160 = some (.array 2 92) := by kernel_rfl
theorem un161 : (Try.prog).underlying 161 = some (.array 2 94) := by kernel_rfl
theorem un180 : (Try.prog).underlying 180 = some (.int .u64) := by kernel_rfl
theorem un184 : (Try.prog).underlying 184 = some (.slice 189) := by kernel_rfl
theorem un196 : (Try.prog).underlying 196 = some (.slice 94) := by kernel_rfl
theorem un211 : (Try.prog).underlying 211 = some (.int .u64) := by kernel_rfl
theorem un22 : (Try.prog).underlying 22 = some (.slice 3) := by kernel_rfl
theorem un3 : (Try.prog).underlying 3 = some (.int .i64) := by kernel_rfl
theorem un4 : (Try.prog).underlying 4 = some .bool := by kernel_rfl
theorem un5 : (Try.prog).underlying 5 = some (.int .u8) := by kernel_rfl
theorem un9 : (Try.prog).underlying 9 = some .string := by kernel_rfl
theorem un94 : (Try.prog).underlying 94 = some (.slice 92) := by kernel_rfl
theorem z189 : zeroCells Try.prog 189 = some [.d (.int .i64 0), .d (.int .i64 0)] := by kernel_rfl
theorem z3 : zeroCells Try.prog 3 = some [.d (.int .i64 0)] := by kernel_rfl
theorem z92 : zeroCells Try.prog 92 = some [.d (.int .i64 0), .d (.int .i64 0), .d (.int .i64 0), .d (.int .i64 0)] := by kernel_rfl
end Go.Proofs.Ytodfcleaapnklaa.Law
