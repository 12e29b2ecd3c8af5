/-
  Closed facts on the types and functions of the program.
-/
import Derived.Test.YtodfcleaapnklaaProg
import Derived.Test.YtodfcleaapnklaaEng3
open Go Go.Eng Go.Proofs
namespace Go.Proofs.Ytodfcleaapnklaa.Law
set_option maxRecDepth 100000
set_option linter.unusedVariables false
set_option maxHeartbeats 1000000
theorem ag22 : isAggT Try.prog 22 = false := by kernel_rfl
theorem ag3 : isAggT Try.prog 3 = false := by kernel_rfl
theorem ag30 : isAggT Try.prog 30 = false := by kernel_rfl
theorem ag4 : isAggT Try.prog 4 = false := by kernel_rfl
theorem ag46 : isAggT Try.prog 46 = false := by kernel_rfl
theorem ag48 : isAggT Try.prog 48 = true := by kernel_rfl
theorem ag51 : isAggT Try.prog 51 = true := by kernel_rfl
theorem ag56 : isAggT Try.prog 56 = true := by kernel_rfl
theorem ag9 : isAggT Try.prog 9 = false := by kernel_rfl
theorem by3 : bytesT Try.prog 3 = 8 := by kernel_rfl
theorem by51 : bytesT Try.prog 51 = 16 := by kernel_rfl
theorem by56 : bytesT Try.prog 56 = 152 := by kernel_rfl
theorem by9 : bytesT Try.prog 9 = 16 := by kernel_rfl
theorem el22 : elemT Try.prog 22 = some 3 := by kernel_rfl
theorem el46 : elemT Try.prog 46 = some 9 := by kernel_rfl
theorem el53 : elemT Try.prog 53 = some 56 := by kernel_rfl
theorem el57 : elemT Try.prog 57 = some 51 := by kernel_rfl
theorem es129 : (elemT Try.prog 129).bind (szT Try.prog) = some 1 := by kernel_rfl
theorem es133 : (elemT Try.prog 133).bind (szT Try.prog) = some 1 := by kernel_rfl
theorem es22 : (elemT Try.prog 22).bind (szT Try.prog) = some 1 := by kernel_rfl
theorem es46 : (elemT Try.prog 46).bind (szT Try.prog) = some 1 := by kernel_rfl
theorem es53 : (elemT Try.prog 53).bind (szT Try.prog) = some 13 := by kernel_rfl
theorem es57 : (elemT Try.prog 57).bind (szT Try.prog) = some 2 := by kernel_rfl
theorem ez129 : ((elemT Try.prog 129).bind (zeroCells Try.prog)).isSome = true := by kernel_rfl
theorem ez133 : ((elemT Try.prog 133).bind (zeroCells Try.prog)).isSome = true := by kernel_rfl
theorem ez22 : ((elemT Try.prog 22).bind (zeroCells Try.prog)).isSome = true := by kernel_rfl
theorem ez46 : ((elemT Try.prog 46).bind (zeroCells Try.prog)).isSome = true := by kernel_rfl
theorem ez53 : ((elemT Try.prog 53).bind (zeroCells Try.prog)).isSome = true := by kernel_rfl
theorem ez57 : ((elemT Try.prog 57).bind (zeroCells Try.prog)).isSome = true := by kernel_rfl
theorem hb10 : hasBody Try.prog 10 = true := by kernel_rfl
theorem hb100 : hasBody Try.prog 100 = true := by kernel_rfl
theorem hb101 : hasBody Try.prog 101 = true := by kernel_rfl
theorem hb102 : hasBody Try.prog 102 = true := by kernel_rfl
theorem hb103 : hasBody Try.prog 103 = true := by kernel_rfl
theorem hb104 : hasBody Try.prog 104 = true := by kernel_rfl
theorem hb106 : hasBody Try.prog 106 = true := by kernel_rfl
theorem hb126 : hasBody Try.prog 126 = true := by kernel_rfl
theorem hb147 : hasBody Try.prog 147 = true := by kernel_rfl
theorem hb150 : hasBody Try.prog 150 = true := by kernel_rfl
theorem hb154 : hasBody Try.prog 154 = true := by kernel_rfl
theorem hb155 : hasBody Try.prog 155 = true := by kernel_rfl
theorem hb156 : hasBody Try.prog 156 = true := by kernel_rfl
theorem hb157 : hasBody Try.prog 157 = true := by kernel_rfl
theorem hb158 : hasBody Try.prog 158 = true := by kernel_rfl
theorem hb159 : hasBody Try.prog 159 = true := by kernel_rfl
theorem hb16 : hasBody Try.prog 16 = true := by kernel_rfl
theorem hb160 : hasBody Try.prog 160 = true := by kernel_rfl
theorem hb161 : hasBody Try.prog 161 = true := by kernel_rfl
theorem hb165 : hasBody Try.prog 165 = true := by kernel_rfl
theorem hb168 : hasBody Try.prog 168 = true := by kernel_rfl
theorem hb17 : hasBody Try.prog 17 = true := by kernel_rfl
theorem hb18 : hasBody Try.prog 18 = true := by kernel_rfl
theorem hb183 : hasBody Try.prog 183 = true := by kernel_rfl
theorem hb185 : hasBody Try.prog 185 = true := by kernel_rfl
theorem hb186 : hasBody Try.prog 186 = true := by kernel_rfl
theorem hb187 : hasBody Try.prog 187 = true := by kernel_rfl
theorem hb188 : hasBody Try.prog 188 = true := by kernel_rfl
theorem hb189 : hasBody Try.prog 189 = true := by kernel_rfl
theorem hb201 : hasBody Try.prog 201 = true := by kernel_rfl
theorem hb207 : hasBody Try.prog 207 = true := by kernel_rfl
theorem hb208 : hasBody Try.prog 208 = true := by kernel_rfl
theorem hb209 : hasBody Try.prog 209 = true := by kernel_rfl
theorem hb24 : hasBody Try.prog 24 = true := by kernel_rfl
theorem hb25 : hasBody Try.prog 25 = true := by kernel_rfl
theorem hb26 : hasBody Try.prog 26 = true := by kernel_rfl
theorem hb27 : hasBody Try.prog 27 = true := by kernel_rfl
theorem hb28 : hasBody Try.prog 28 = true := by kernel_rfl
theorem hb29 : hasBody Try.prog 29 = true := by kernel_rfl
theorem hb30 : hasBody Try.prog 30 = true := by kernel_rfl
theorem hb31 : hasBody Try.prog 31 = true := by kernel_rfl
theorem hb32 : hasBody Try.prog 32 = true := by kernel_rfl
theorem hb33 : hasBody Try.prog 33 = true := by kernel_rfl
theorem hb34 : hasBody Try.prog 34 = true := by kernel_rfl
theorem hb35 : hasBody Try.prog 35 = true := by kernel_rfl
theorem hb37 : hasBody Try.prog 37 = true := by kernel_rfl
theorem hb38 : hasBody Try.prog 38 = true := by kernel_rfl
theorem hb44 : hasBody Try.prog 44 = true := by kernel_rfl
theorem hb75 : hasBody Try.prog 75 = true := by kernel_rfl
theorem hb77 : hasBody Try.prog 77 = true := by kernel_rfl
theorem hb82 : hasBody Try.prog 82 = true := by kernel_rfl
theorem hb84 : hasBody Try.prog 84 = true := by kernel_rfl
theorem hb85 : hasBody Try.prog 85 = true := by kernel_rfl
theorem hb89 : hasBody Try.prog 89 = true := by kernel_rfl
theorem hb9 : hasBody Try.prog 9 = true := by kernel_rfl
theorem hb90 : hasBody Try.prog 90 = true := by kernel_rfl
theorem hb91 : hasBody Try.prog 91 = true := by kernel_rfl
theorem hb92 : hasBody Try.prog 92 = true := by kernel_rfl
theorem hb93 : hasBody Try.prog 93 = true := by kernel_rfl
theorem hb94 : hasBody Try.prog 94 = true := by kernel_rfl
theorem hb95 : hasBody Try.prog 95 = true := by kernel_rfl
theorem hb96 : hasBody Try.prog 96 = true := by kernel_rfl
theorem hb97 : hasBody Try.prog 97 = true := by kernel_rfl
theorem hb98 : hasBody Try.prog 98 = true := by kernel_rfl
theorem hb99 : hasBody Try.prog 99 = true := by kernel_rfl
theorem nb206 : hasBody Try.prog 206 = false := by kernel_rfl
theorem pl25_0 : placeT Try.prog 25 0 = some (0, 1) := by kernel_rfl
theorem pl25_1 : placeT Try.prog 25 1 = some (1, 1) := by kernel_rfl
theorem pl48_0 : placeT Try.prog 48 0 = some (0, 1) := by kernel_rfl
theorem pl48_1 : placeT Try.prog 48 1 = some (1, 1) := by kernel_rfl
theorem pl48_2 : placeT Try.prog 48 2 = some (2, 1) := by kernel_rfl
theorem pl48_3 : placeT Try.prog 48 3 = some (3, 1) := by kernel_rfl
theorem pl51_0 : placeT Try.prog 51 0 = some (0, 1) := by kernel_rfl
theorem pl51_1 : placeT Try.prog 51 1 = some (1, 1) := by kernel_rfl
theorem pl56_0 : placeT Try.prog 56 0 = some (0, 1) := by kernel_rfl
theorem pl56_1 : placeT Try.prog 56 1 = some (1, 1) := by kernel_rfl
theorem pl56_10 : placeT Try.prog 56 10 = some (10, 1) := by kernel_rfl
theorem pl56_11 : placeT Try.prog 56 11 = some (11, 1) := by kernel_rfl
theorem pl56_12 : placeT Try.prog 56 12 = some (12, 1) := by kernel_rfl
theorem pl56_2 : placeT Try.prog 56 2 = some (2, 1) := by kernel_rfl
theorem pl56_3 : placeT Try.prog 56 3 = some (3, 1) := by kernel_rfl
theorem pl56_4 : placeT Try.prog 56 4 = some (4, 1) := by kernel_rfl
theorem pl56_5 : placeT Try.prog 56 5 = some (5, 1) := by kernel_rfl
theorem pl56_6 : placeT Try.prog 56 6 = some (6, 1) := by kernel_rfl
theorem pl56_7 : placeT Try.prog 56 7 = some (7, 1) := by kernel_rfl
theorem pl56_8 : placeT Try.prog 56 8 = some (8, 1) := by kernel_rfl
theorem pl56_9 : placeT Try.prog 56 9 = some (9, 1) := by kernel_rfl
theorem sz22 : szT Try.prog 22 = some 1 := by kernel_rfl
theorem sz3 : szT Try.prog 3 = some 1 := by kernel_rfl
theorem sz30 : szT Try.prog 30 = some 1 := by kernel_rfl
theorem sz4 : szT Try.prog 4 = some 1 := by kernel_rfl
theorem sz46 : szT Try.prog 46 = some 1 := by kernel_rfl
theorem sz48 : szT Try.prog 48 = some 4 := by kernel_rfl
theorem sz51 : szT Try.prog 51 = some 2 := by kernel_rfl
theorem sz56 : szT Try.prog 56 = some 13 := by kernel_rfl
theorem sz9 : szT Try.prog 9 = some 1 := by kernel_rfl
theorem un129 : (Try.prog).underlying 129 = some (.slice 30) := by kernel_rfl
theorem un180 : (Try.prog).underlying 180 = some (.int .u64) := by kernel_rfl
theorem un22 : (Try.prog).underlying 22 = some (.slice 3) := by kernel_rfl
theorem un3 : (Try.prog).underlying 3 = some (.int .i64) := by kernel_rfl
theorem un4 : (Try.prog).underlying 4 = some .bool := by kernel_rfl
theorem un46 : (Try.prog).underlying 46 = some (.slice 9) := by kernel_rfl
theorem un53 : (Try.prog).underlying 53 = some (.slice 56) := by kernel_rfl
theorem un57 : (Try.prog).underlying 57 = some (.slice 51) := by kernel_rfl
theorem un9 : (Try.prog).underlying 9 = some .string := by kernel_rfl
theorem z3 : zeroCells Try.prog 3 = some [.d (.int .i64 0)] := by kernel_rfl
theorem z48 : zeroCells Try.prog 48 = some [.d (.str ⟨#[]⟩), .d (.str ⟨#[]⟩), .d (.int .i64 0), .nil] := by kernel_rfl
theorem z51 : zeroCells Try.prog 51 = some [.d (.int .i64 0), .d (.int .i64 0)] := by kernel_rfl
theorem z56 : zeroCells Try.prog 56 = some [.d (.str ⟨#[]⟩), .d (.str ⟨#[]⟩), .d (.int .i64 0), .d (.int .i64 0), .d (.int .i64 0), .d (.int .i64 0), .d (.int .i64 0), .nil, .d (.int .i64 0), .d (.int .i64 0), .d (.int .i64 0), .nil, .d (.bool false)] := by kernel_rfl
theorem z9 : zeroCells Try.prog 9 = some [.d (.str ⟨#[]⟩)] := by kernel_rfl
end Go.Proofs.Ytodfcleaapnklaa.Law
