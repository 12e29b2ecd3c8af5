/-
  Closed facts on the types and functions of the program.
-/
import Derived.Test.YtbdohgbccebocaaGreatDoorProg
import Derived.Test.YtbdohgbccebocaaGreatDoorEng4
open Go Go.Eng Go.Proofs
namespace Go.Proofs.YtbdohgbccebocaaGreatDoor.Law
set_option maxRecDepth 100000
set_option linter.unusedVariables false
set_option maxHeartbeats 1000000
theorem ag150 : isAggT Tryz.prog 150 = true := by kernel_rfl
theorem ag153 : isAggT Tryz.prog 153 = true := by kernel_rfl
theorem ag156 : isAggT Tryz.prog 156 = true := by kernel_rfl
theorem ag22 : isAggT Tryz.prog 22 = false := by kernel_rfl
theorem ag235 : isAggT Tryz.prog 235 = true := by kernel_rfl
theorem ag26 : isAggT Tryz.prog 26 = false := by kernel_rfl
theorem ag283 : isAggT Tryz.prog 283 = true := by kernel_rfl
theorem ag3 : isAggT Tryz.prog 3 = false := by kernel_rfl
theorem ag30 : isAggT Tryz.prog 30 = true := by kernel_rfl
theorem ag32 : isAggT Tryz.prog 32 = false := by kernel_rfl
theorem ag37 : isAggT Tryz.prog 37 = true := by kernel_rfl
theorem ag4 : isAggT Tryz.prog 4 = false := by kernel_rfl
theorem ag47 : isAggT Tryz.prog 47 = true := by kernel_rfl
theorem ag55 : isAggT Tryz.prog 55 = true := by kernel_rfl
theorem ag56 : isAggT Tryz.prog 56 = false := by kernel_rfl
theorem ag66 : isAggT Tryz.prog 66 = false := by kernel_rfl
theorem ag68 : isAggT Tryz.prog 68 = true := by kernel_rfl
theorem ag75 : isAggT Tryz.prog 75 = true := by kernel_rfl
theorem ag9 : isAggT Tryz.prog 9 = false := by kernel_rfl
theorem by235 : bytesT Tryz.prog 235 = 16 := by kernel_rfl
theorem by283 : bytesT Tryz.prog 283 = 16 := by kernel_rfl
theorem by3 : bytesT Tryz.prog 3 = 8 := by kernel_rfl
theorem by30 : bytesT Tryz.prog 30 = 16 := by kernel_rfl
theorem by37 : bytesT Tryz.prog 37 = 48 := by kernel_rfl
theorem by4 : bytesT Tryz.prog 4 = 1 := by kernel_rfl
theorem by47 : bytesT Tryz.prog 47 = 16 := by kernel_rfl
theorem by75 : bytesT Tryz.prog 75 = 32 := by kernel_rfl
theorem el159 : elemT Tryz.prog 159 = some 4 := by kernel_rfl
theorem el22 : elemT Tryz.prog 22 = some 3 := by kernel_rfl
theorem el230 : elemT Tryz.prog 230 = some 235 := by kernel_rfl
theorem el248 : elemT Tryz.prog 248 = some 283 := by kernel_rfl
theorem el26 : elemT Tryz.prog 26 = some 37 := by kernel_rfl
theorem el31 : elemT Tryz.prog 31 = some 30 := by kernel_rfl
theorem el43 : elemT Tryz.prog 43 = some 47 := by kernel_rfl
theorem el66 : elemT Tryz.prog 66 = some 75 := by kernel_rfl
theorem es157 : (elemT Tryz.prog 157).bind (szT Tryz.prog) = some 3 := by kernel_rfl
theorem es159 : (elemT Tryz.prog 159).bind (szT Tryz.prog) = some 1 := by kernel_rfl
theorem es193 : (elemT Tryz.prog 193).bind (szT Tryz.prog) = some 1 := by kernel_rfl
theorem es210 : (elemT Tryz.prog 210).bind (szT Tryz.prog) = some 13 := by kernel_rfl
theorem es215 : (elemT Tryz.prog 215).bind (szT Tryz.prog) = some 8 := by kernel_rfl
theorem es22 : (elemT Tryz.prog 22).bind (szT Tryz.prog) = some 1 := by kernel_rfl
theorem es230 : (elemT Tryz.prog 230).bind (szT Tryz.prog) = some 2 := by kernel_rfl
theorem es248 : (elemT Tryz.prog 248).bind (szT Tryz.prog) = some 2 := by kernel_rfl
theorem es26 : (elemT Tryz.prog 26).bind (szT Tryz.prog) = some 4 := by kernel_rfl
theorem es268 : (elemT Tryz.prog 268).bind (szT Tryz.prog) = some 1 := by kernel_rfl
theorem es31 : (elemT Tryz.prog 31).bind (szT Tryz.prog) = some 2 := by kernel_rfl
theorem es43 : (elemT Tryz.prog 43).bind (szT Tryz.prog) = some 2 := by kernel_rfl
theorem es49 : (elemT Tryz.prog 49).bind (szT Tryz.prog) = some 9 := by kernel_rfl
theorem es51 : (elemT Tryz.prog 51).bind (szT Tryz.prog) = some 3 := by kernel_rfl
theorem es56 : (elemT Tryz.prog 56).bind (szT Tryz.prog) = some 1 := by kernel_rfl
theorem es66 : (elemT Tryz.prog 66).bind (szT Tryz.prog) = some 4 := by kernel_rfl
theorem ez157 : ((elemT Tryz.prog 157).bind (zeroCells Tryz.prog)).isSome = true := by kernel_rfl
theorem ez193 : ((elemT Tryz.prog 193).bind (zeroCells Tryz.prog)).isSome = true := by kernel_rfl
theorem ez210 : ((elemT Tryz.prog 210).bind (zeroCells Tryz.prog)).isSome = true := by kernel_rfl
theorem ez215 : ((elemT Tryz.prog 215).bind (zeroCells Tryz.prog)).isSome = true := by kernel_rfl
theorem ez22 : ((elemT Tryz.prog 22).bind (zeroCells Tryz.prog)).isSome = true := by kernel_rfl
theorem ez230 : ((elemT Tryz.prog 230).bind (zeroCells Tryz.prog)).isSome = true := by kernel_rfl
theorem ez248 : ((elemT Tryz.prog 248).bind (zeroCells Tryz.prog)).isSome = true := by kernel_rfl
theorem ez26 : ((elemT Tryz.prog 26).bind (zeroCells Tryz.prog)).isSome = true := by kernel_rfl
theorem ez268 : ((elemT Tryz.prog 268).bind (zeroCells Tryz.prog)).isSome = true := by kernel_rfl
theorem ez31 : ((elemT Tryz.prog 31).bind (zeroCells Tryz.prog)).isSome = true := by kernel_rfl
theorem ez43 : ((elemT Tryz.prog 43).bind (zeroCells Tryz.prog)).isSome = true := by kernel_rfl
theorem ez49 : ((elemT Tryz.prog 49).bind (zeroCells Tryz.prog)).isSome = true := by kernel_rfl
theorem ez51 : ((elemT Tryz.prog 51).bind (zeroCells Tryz.prog)).isSome = true := by kernel_rfl
theorem ez56 : ((elemT Tryz.prog 56).bind (zeroCells Tryz.prog)).isSome = true := by kernel_rfl
theorem ez66 : ((elemT Tryz.prog 66).bind (zeroCells Tryz.prog)).isSome = true := by kernel_rfl
theorem hb10 : hasBody Tryz.prog 10 = true := by kernel_rfl
theorem hb11 : hasBody Tryz.prog 11 = true := by kernel_rfl
theorem hb111 : hasBody Tryz.prog 111 = true := by kernel_rfl
theorem hb115 : hasBody Tryz.prog 115 = true := by kernel_rfl
theorem hb128 : hasBody Tryz.prog 128 = true := by kernel_rfl
theorem hb129 : hasBody Tryz.prog 129 = true := by kernel_rfl
theorem hb130 : hasBody Tryz.prog 130 = true := by kernel_rfl
theorem hb131 : hasBody Tryz.prog 131 = true := by kernel_rfl
theorem hb132 : hasBody Tryz.prog 132 = true := by kernel_rfl
theorem hb133 : hasBody Tryz.prog 133 = true := by kernel_rfl
theorem hb134 : hasBody Tryz.prog 134 = true := by kernel_rfl
theorem hb135 : hasBody Tryz.prog 135 = true := by kernel_rfl
theorem hb136 : hasBody Tryz.prog 136 = true := by kernel_rfl
theorem hb137 : hasBody Tryz.prog 137 = true := by kernel_rfl
theorem hb139 : hasBody Tryz.prog 139 = true := by kernel_rfl
theorem hb143 : hasBody Tryz.prog 143 = true := by kernel_rfl
theorem hb144 : hasBody Tryz.prog 144 = true := by kernel_rfl
theorem hb145 : hasBody Tryz.prog 145 = true := by kernel_rfl
theorem hb150 : hasBody Tryz.prog 150 = true := by kernel_rfl
theorem hb151 : hasBody Tryz.prog 151 = true := by kernel_rfl
theorem hb152 : hasBody Tryz.prog 152 = true := by kernel_rfl
theorem hb153 : hasBody Tryz.prog 153 = true := by kernel_rfl
theorem hb154 : hasBody Tryz.prog 154 = true := by kernel_rfl
theorem hb155 : hasBody Tryz.prog 155 = true := by kernel_rfl
theorem hb161 : hasBody Tryz.prog 161 = true := by kernel_rfl
theorem hb162 : hasBody Tryz.prog 162 = true := by kernel_rfl
theorem hb168 : hasBody Tryz.prog 168 = true := by kernel_rfl
theorem hb17 : hasBody Tryz.prog 17 = true := by kernel_rfl
theorem hb171 : hasBody Tryz.prog 171 = true := by kernel_rfl
theorem hb172 : hasBody Tryz.prog 172 = true := by kernel_rfl
theorem hb173 : hasBody Tryz.prog 173 = true := by kernel_rfl
theorem hb174 : hasBody Tryz.prog 174 = true := by kernel_rfl
theorem hb175 : hasBody Tryz.prog 175 = true := by kernel_rfl
theorem hb176 : hasBody Tryz.prog 176 = true := by kernel_rfl
theorem hb177 : hasBody Tryz.prog 177 = true := by kernel_rfl
theorem hb178 : hasBody Tryz.prog 178 = true := by kernel_rfl
theorem hb18 : hasBody Tryz.prog 18 = true := by kernel_rfl
theorem hb188 : hasBody Tryz.prog 188 = true := by kernel_rfl
theorem hb19 : hasBody Tryz.prog 19 = true := by kernel_rfl
theorem hb200 : hasBody Tryz.prog 200 = true := by kernel_rfl
theorem hb201 : hasBody Tryz.prog 201 = true := by kernel_rfl
theorem hb203 : hasBody Tryz.prog 203 = true := by kernel_rfl
theorem hb204 : hasBody Tryz.prog 204 = true := by kernel_rfl
theorem hb207 : hasBody Tryz.prog 207 = true := by kernel_rfl
theorem hb208 : hasBody Tryz.prog 208 = true := by kernel_rfl
theorem hb209 : hasBody Tryz.prog 209 = true := by kernel_rfl
theorem hb212 : hasBody Tryz.prog 212 = true := by kernel_rfl
theorem hb213 : hasBody Tryz.prog 213 = true := by kernel_rfl
theorem hb216 : hasBody Tryz.prog 216 = true := by kernel_rfl
theorem hb217 : hasBody Tryz.prog 217 = true := by kernel_rfl
theorem hb218 : hasBody Tryz.prog 218 = true := by kernel_rfl
theorem hb219 : hasBody Tryz.prog 219 = true := by kernel_rfl
theorem hb220 : hasBody Tryz.prog 220 = true := by kernel_rfl
theorem hb221 : hasBody Tryz.prog 221 = true := by kernel_rfl
theorem hb237 : hasBody Tryz.prog 237 = true := by kernel_rfl
theorem hb240 : hasBody Tryz.prog 240 = true := by kernel_rfl
theorem hb241 : hasBody Tryz.prog 241 = true := by kernel_rfl
theorem hb243 : hasBody Tryz.prog 243 = true := by kernel_rfl
theorem hb244 : hasBody Tryz.prog 244 = true := by kernel_rfl
theorem hb250 : hasBody Tryz.prog 250 = true := by kernel_rfl
theorem hb251 : hasBody Tryz.prog 251 = true := by kernel_rfl
theorem hb254 : hasBody Tryz.prog 254 = true := by kernel_rfl
theorem hb255 : hasBody Tryz.prog 255 = true := by kernel_rfl
theorem hb261 : hasBody Tryz.prog 261 = true := by kernel_rfl
theorem hb274 : hasBody Tryz.prog 274 = true := by kernel_rfl
theorem hb28 : hasBody Tryz.prog 28 = true := by kernel_rfl
theorem hb47 : hasBody Tryz.prog 47 = true := by kernel_rfl
theorem hb55 : hasBody Tryz.prog 55 = true := by kernel_rfl
theorem hb62 : hasBody Tryz.prog 62 = true := by kernel_rfl
theorem hb69 : hasBody Tryz.prog 69 = true := by kernel_rfl
theorem hb70 : hasBody Tryz.prog 70 = true := by kernel_rfl
theorem hb71 : hasBody Tryz.prog 71 = true := by kernel_rfl
theorem hb72 : hasBody Tryz.prog 72 = true := by kernel_rfl
theorem hb73 : hasBody Tryz.prog 73 = true := by kernel_rfl
theorem hb76 : hasBody Tryz.prog 76 = true := by kernel_rfl
theorem hb77 : hasBody Tryz.prog 77 = true := by kernel_rfl
theorem hb78 : hasBody Tryz.prog 78 = true := by kernel_rfl
theorem hb79 : hasBody Tryz.prog 79 = true := by kernel_rfl
theorem hb80 : hasBody Tryz.prog 80 = true := by kernel_rfl
theorem hb81 : hasBody Tryz.prog 81 = true := by kernel_rfl
theorem hb85 : hasBody Tryz.prog 85 = true := by kernel_rfl
theorem hb91 : hasBody Tryz.prog 91 = true := by kernel_rfl
theorem hb92 : hasBody Tryz.prog 92 = true := by kernel_rfl
theorem hb93 : hasBody Tryz.prog 93 = true := by kernel_rfl
theorem hb94 : hasBody Tryz.prog 94 = true := by kernel_rfl
theorem hb97 : hasBody Tryz.prog 97 = true := by kernel_rfl
theorem hb99 : hasBody Tryz.prog 99 = true := by kernel_rfl
theorem mt202 : mapT Tryz.prog 202 = some (9, 4) := by kernel_rfl
theorem nb199 : hasBody Tryz.prog 199 = false := by kernel_rfl
theorem nb275 : hasBody Tryz.prog 275 = false := by kernel_rfl
theorem pl150_0 : placeT Tryz.prog 150 0 = some (0, 1) := by kernel_rfl
theorem pl150_1 : placeT Tryz.prog 150 1 = some (1, 1) := by kernel_rfl
theorem pl150_10 : placeT Tryz.prog 150 10 = some (10, 1) := by kernel_rfl
theorem pl150_11 : placeT Tryz.prog 150 11 = some (11, 1) := by kernel_rfl
theorem pl150_12 : placeT Tryz.prog 150 12 = some (12, 1) := by kernel_rfl
theorem pl150_2 : placeT Tryz.prog 150 2 = some (2, 1) := by kernel_rfl
theorem pl150_3 : placeT Tryz.prog 150 3 = some (3, 1) := by kernel_rfl
theorem pl150_4 : placeT Tryz.prog 150 4 = some (4, 1) := by kernel_rfl
theorem pl150_5 : placeT Tryz.prog 150 5 = some (5, 1) := by kernel_rfl
theorem pl150_6 : placeT Tryz.prog 150 6 = some (6, 1) := by kernel_rfl
theorem pl150_7 : placeT Tryz.prog 150 7 = some (7, 1) := by kernel_rfl
theorem pl150_8 : placeT Tryz.prog 150 8 = some (8, 1) := by kernel_rfl
theorem pl150_9 : placeT Tryz.prog 150 9 = some (9, 1) := by kernel_rfl
theorem pl153_0 : placeT Tryz.prog 153 0 = some (0, 1) := by kernel_rfl
theorem pl153_1 : placeT Tryz.prog 153 1 = some (1, 1) := by kernel_rfl
theorem pl153_2 : placeT Tryz.prog 153 2 = some (2, 2) := by kernel_rfl
theorem pl153_3 : placeT Tryz.prog 153 3 = some (4, 1) := by kernel_rfl
theorem pl153_4 : placeT Tryz.prog 153 4 = some (5, 1) := by kernel_rfl
theorem pl153_5 : placeT Tryz.prog 153 5 = some (6, 1) := by kernel_rfl
theorem pl153_6 : placeT Tryz.prog 153 6 = some (7, 1) := by kernel_rfl
theorem pl156_0 : placeT Tryz.prog 156 0 = some (0, 1) := by kernel_rfl
theorem pl156_1 : placeT Tryz.prog 156 1 = some (1, 1) := by kernel_rfl
theorem pl156_2 : placeT Tryz.prog 156 2 = some (2, 1) := by kernel_rfl
theorem pl235_0 : placeT Tryz.prog 235 0 = some (0, 1) := by kernel_rfl
theorem pl235_1 : placeT Tryz.prog 235 1 = some (1, 1) := by kernel_rfl
theorem pl25_0 : placeT Tryz.prog 25 0 = some (0, 1) := by kernel_rfl
theorem pl25_1 : placeT Tryz.prog 25 1 = some (1, 1) := by kernel_rfl
theorem pl283_0 : placeT Tryz.prog 283 0 = some (0, 1) := by kernel_rfl
theorem pl283_1 : placeT Tryz.prog 283 1 = some (1, 1) := by kernel_rfl
theorem pl30_0 : placeT Tryz.prog 30 0 = some (0, 1) := by kernel_rfl
theorem pl30_1 : placeT Tryz.prog 30 1 = some (1, 1) := by kernel_rfl
theorem pl37_0 : placeT Tryz.prog 37 0 = some (0, 1) := by kernel_rfl
theorem pl37_1 : placeT Tryz.prog 37 1 = some (1, 1) := by kernel_rfl
theorem pl37_2 : placeT Tryz.prog 37 2 = some (2, 1) := by kernel_rfl
theorem pl37_3 : placeT Tryz.prog 37 3 = some (3, 1) := by kernel_rfl
theorem pl47_0 : placeT Tryz.prog 47 0 = some (0, 1) := by kernel_rfl
theorem pl47_1 : placeT Tryz.prog 47 1 = some (1, 1) := by kernel_rfl
theorem pl55_0 : placeT Tryz.prog 55 0 = some (0, 1) := by kernel_rfl
theorem pl55_1 : placeT Tryz.prog 55 1 = some (1, 1) := by kernel_rfl
theorem pl55_2 : placeT Tryz.prog 55 2 = some (2, 1) := by kernel_rfl
theorem pl68_0 : placeT Tryz.prog 68 0 = some (0, 1) := by kernel_rfl
theorem pl68_1 : placeT Tryz.prog 68 1 = some (1, 1) := by kernel_rfl
theorem pl68_2 : placeT Tryz.prog 68 2 = some (2, 1) := by kernel_rfl
theorem pl68_3 : placeT Tryz.prog 68 3 = some (3, 1) := by kernel_rfl
theorem pl68_4 : placeT Tryz.prog 68 4 = some (4, 1) := by kernel_rfl
theorem pl68_5 : placeT Tryz.prog 68 5 = some (5, 1) := by kernel_rfl
theorem pl68_6 : placeT Tryz.prog 68 6 = some (6, 1) := by kernel_rfl
theorem pl68_7 : placeT Tryz.prog 68 7 = some (7, 1) := by kernel_rfl
theorem pl68_8 : placeT Tryz.prog 68 8 = some (8, 1) := by kernel_rfl
theorem pl75_0 : placeT Tryz.prog 75 0 = some (0, 1) := by kernel_rfl
theorem pl75_1 : placeT Tryz.prog 75 1 = some (1, 1) := by kernel_rfl
theorem pl75_2 : placeT Tryz.prog 75 2 = some (2, 1) := by kernel_rfl
theorem pl75_3 : placeT Tryz.prog 75 3 = some (3, 1) := by kernel_rfl
theorem sz150 : szT Tryz.prog 150 = some 13 := by kernel_rfl
theorem sz153 : szT Tryz.prog 153 = some 8 := by kernel_rfl
theorem sz156 : szT Tryz.prog 156 = some 3 := by kernel_rfl
theorem sz22 : szT Tryz.prog 22 = some 1 := by kernel_rfl
theorem sz235 : szT Tryz.prog 235 = some 2 := by kernel_rfl
theorem sz26 : szT Tryz.prog 26 = some 1 := by kernel_rfl
theorem sz283 : szT Tryz.prog 283 = some 2 := by kernel_rfl
theorem sz3 : szT Tryz.prog 3 = some 1 := by kernel_rfl
theorem sz30 : szT Tryz.prog 30 = some 2 := by kernel_rfl
theorem sz32 : szT Tryz.prog 32 = some 1 := by kernel_rfl
theorem sz37 : szT Tryz.prog 37 = some 4 := by kernel_rfl
theorem sz4 : szT Tryz.prog 4 = some 1 := by kernel_rfl
theorem sz47 : szT Tryz.prog 47 = some 2 := by kernel_rfl
theorem sz55 : szT Tryz.prog 55 = some 3 := by kernel_rfl
theorem sz56 : szT Tryz.prog 56 = some 1 := by kernel_rfl
theorem sz66 : szT Tryz.prog 66 = some 1 := by kernel_rfl
theorem sz68 : szT Tryz.prog 68 = some 9 := by kernel_rfl
theorem sz75 : szT Tryz.prog 75 = some 4 := by kernel_rfl
theorem sz9 : szT Tryz.prog 9 = some 1 := by kernel_rfl
theorem un157 : (Tryz.prog).underlying 157 = some (.slice 156) := by kernel_rfl
theorem un158 : (Tryz.prog).underlying 158 = some (.array 2 26) := by kernel_rfl
theorem un159 : (Tryz.prog).underlying 159 = some (.slice 4) := by kernel_rfl
theorem un193 : (Tryz.prog).underlying 193 = some (.slice 32) := by kernel_rfl
theorem un210 : (Tryz.prog).underlying 210 = some (.slice 150) := by kernel_rfl
theorem un215 : (Tryz.prog).underlying 215 = some (.slice 153) := by kernel_rfl
theorem un22 : (Tryz.prog).underlying 22 = some (.slice 3) := by kernel_rfl
theorem un220 : (Tryz.prog).underlying 220 = some (.int .u64) := by kernel_rfl
theorem un230 : (Tryz.prog).underlying 230 = some (.slice 235) := by kernel_rfl
theorem un248 : (Tryz.prog).underlying 248 = some (.slice 283) := by kernel_rfl
theorem un26 : (Tryz.prog).underlying 26 = some (.slice 37) := by kernel_rfl
theorem un260 : (Tryz.prog).underlying 260 = some (.int .u64) := by kernel_rfl
theorem un268 : (Tryz.prog).underlying 268 = some (.slice 66) := by kernel_rfl
theorem un3 : (Tryz.prog).underlying 3 = some (.int .i64) := by kernel_rfl
theorem un31 : (Tryz.prog).underlying 31 = some (.slice 30) := by kernel_rfl
theorem un4 : (Tryz.prog).underlying 4 = some .bool := by kernel_rfl
theorem un43 : (Tryz.prog).underlying 43 = some (.slice 47) := by kernel_rfl
theorem un49 : (Tryz.prog).underlying 49 = some (.slice 68) := by kernel_rfl
theorem un5 : (Tryz.prog).underlying 5 = some (.int .u8) := by kernel_rfl
theorem un51 : (Tryz.prog).underlying 51 = some (.slice 55) := by kernel_rfl
theorem un56 : (Tryz.prog).underlying 56 = some (.slice 9) := by kernel_rfl
theorem un66 : (Tryz.prog).underlying 66 = some (.slice 75) := by kernel_rfl
theorem un9 : (Tryz.prog).underlying 9 = some .string := by kernel_rfl
theorem z150 : zeroCells Tryz.prog 150 = some [.d (.str ⟨#[]⟩), .d (.str ⟨#[]⟩), .d (.int .i64 0), .d (.int .i64 0), .d (.int .i64 0), .d (.int .i64 0), .d (.int .i64 0), .nil, .d (.int .i64 0), .d (.int .i64 0), .d (.int .i64 0), .nil, .d (.bool false)] := by kernel_rfl
theorem z153 : zeroCells Tryz.prog 153 = some [.d (.str ⟨#[]⟩), .d (.str ⟨#[]⟩), .d (.int .i64 0), .d (.int .i64 0), .nil, .d (.int .i64 0), .d (.int .i64 0), .d (.int .i64 0)] := by kernel_rfl
theorem z156 : zeroCells Tryz.prog 156 = some [.d (.str ⟨#[]⟩), .d (.int .i64 0), .d (.int .i64 0)] := by kernel_rfl
theorem z235 : zeroCells Tryz.prog 235 = some [.d (.int .i64 0), .d (.int .i64 0)] := by kernel_rfl
theorem z283 : zeroCells Tryz.prog 283 = some [.d (.int .i64 0), .d (.int .i64 0)] := by kernel_rfl
theorem z3 : zeroCells Tryz.prog 3 = some [.d (.int .i64 0)] := by kernel_rfl
theorem z30 : zeroCells Tryz.prog 30 = some [.d (.int .i64 0), .d (.int .i64 0)] := by kernel_rfl
theorem z37 : zeroCells Tryz.prog 37 = some [.d (.str ⟨#[]⟩), .d (.str ⟨#[]⟩), .d (.int .i64 0), .d (.int .i64 0)] := by kernel_rfl
theorem z4 : zeroCells Tryz.prog 4 = some [.d (.bool false)] := by kernel_rfl
theorem z47 : zeroCells Tryz.prog 47 = some [.d (.int .i64 0), .d (.int .i64 0)] := by kernel_rfl
theorem z55 : zeroCells Tryz.prog 55 = some [.d (.str ⟨#[]⟩), .d (.int .i64 0), .d (.int .i64 0)] := by kernel_rfl
theorem z68 : zeroCells Tryz.prog 68 = some [.d (.str ⟨#[]⟩), .d (.str ⟨#[]⟩), .d (.int .i64 0), .nil, .d (.int .i64 0), .d (.int .i64 0), .d (.int .i64 0), .nil, .d (.str ⟨#[]⟩)] := by kernel_rfl
theorem z75 : zeroCells Tryz.prog 75 = some [.d (.int .i64 0), .d (.int .i64 0), .d (.int .i64 0), .d (.int .i64 0)] := by kernel_rfl
end Go.Proofs.YtbdohgbccebocaaGreatDoor.Law

