/-
  Closed facts on the types and functions of the program.
-/
import Derived.Test.YtpojeclokolkaaaGreatDoorProg
import Derived.Test.YtpojeclokolkaaaGreatDoorEng5
open Go Go.Eng Go.Proofs
namespace Go.Proofs.YtpojeclokolkaaaGreatDoor.Law
set_option maxRecDepth 100000
set_option linter.unusedVariables false
set_option maxHeartbeats 1000000
theorem ag22 : isAggT Tryz.prog 22 = false := by kernel_rfl
theorem ag3 : isAggT Tryz.prog 3 = false := by kernel_rfl
theorem ag30 : isAggT Tryz.prog 30 = false := by kernel_rfl
theorem ag45 : isAggT Tryz.prog 45 = true := by kernel_rfl
theorem ag50 : isAggT Tryz.prog 50 = false := by kernel_rfl
theorem ag77 : isAggT Tryz.prog 77 = true := by kernel_rfl
theorem ag80 : isAggT Tryz.prog 80 = false := by kernel_rfl
theorem ag82 : isAggT Tryz.prog 82 = true := by kernel_rfl
theorem ag9 : isAggT Tryz.prog 9 = false := by kernel_rfl
theorem ag98 : isAggT Tryz.prog 98 = true := by kernel_rfl
theorem by3 : bytesT Tryz.prog 3 = 8 := by kernel_rfl
theorem by45 : bytesT Tryz.prog 45 = 32 := by kernel_rfl
theorem by77 : bytesT Tryz.prog 77 = 32 := by kernel_rfl
theorem by82 : bytesT Tryz.prog 82 = 128 := by kernel_rfl
theorem by9 : bytesT Tryz.prog 9 = 16 := by kernel_rfl
theorem by98 : bytesT Tryz.prog 98 = 32 := by kernel_rfl
theorem el22 : elemT Tryz.prog 22 = some 3 := by kernel_rfl
theorem el50 : elemT Tryz.prog 50 = some 45 := by kernel_rfl
theorem el78 : elemT Tryz.prog 78 = some 82 := by kernel_rfl
theorem el80 : elemT Tryz.prog 80 = some 9 := by kernel_rfl
theorem el86 : elemT Tryz.prog 86 = some 77 := by kernel_rfl
theorem el89 : elemT Tryz.prog 89 = some 98 := by kernel_rfl
theorem es192 : (elemT Tryz.prog 192).bind (szT Tryz.prog) = some 1 := by kernel_rfl
theorem es201 : (elemT Tryz.prog 201).bind (szT Tryz.prog) = some 1 := by kernel_rfl
theorem es22 : (elemT Tryz.prog 22).bind (szT Tryz.prog) = some 1 := by kernel_rfl
theorem es50 : (elemT Tryz.prog 50).bind (szT Tryz.prog) = some 4 := by kernel_rfl
theorem es78 : (elemT Tryz.prog 78).bind (szT Tryz.prog) = some 9 := by kernel_rfl
theorem es80 : (elemT Tryz.prog 80).bind (szT Tryz.prog) = some 1 := by kernel_rfl
theorem es86 : (elemT Tryz.prog 86).bind (szT Tryz.prog) = some 3 := by kernel_rfl
theorem es89 : (elemT Tryz.prog 89).bind (szT Tryz.prog) = some 2 := by kernel_rfl
theorem ez192 : ((elemT Tryz.prog 192).bind (zeroCells Tryz.prog)).isSome = true := by kernel_rfl
theorem ez201 : ((elemT Tryz.prog 201).bind (zeroCells Tryz.prog)).isSome = true := by kernel_rfl
theorem ez22 : ((elemT Tryz.prog 22).bind (zeroCells Tryz.prog)).isSome = true := by kernel_rfl
theorem ez50 : ((elemT Tryz.prog 50).bind (zeroCells Tryz.prog)).isSome = true := by kernel_rfl
theorem ez78 : ((elemT Tryz.prog 78).bind (zeroCells Tryz.prog)).isSome = true := by kernel_rfl
theorem ez80 : ((elemT Tryz.prog 80).bind (zeroCells Tryz.prog)).isSome = true := by kernel_rfl
theorem ez86 : ((elemT Tryz.prog 86).bind (zeroCells Tryz.prog)).isSome = true := by kernel_rfl
theorem ez89 : ((elemT Tryz.prog 89).bind (zeroCells Tryz.prog)).isSome = true := by kernel_rfl
theorem hb109 : hasBody Tryz.prog 109 = true := by kernel_rfl
theorem hb110 : hasBody Tryz.prog 110 = true := by kernel_rfl
theorem hb112 : hasBody Tryz.prog 112 = true := by kernel_rfl
theorem hb113 : hasBody Tryz.prog 113 = true := by kernel_rfl
theorem hb114 : hasBody Tryz.prog 114 = true := by kernel_rfl
theorem hb115 : hasBody Tryz.prog 115 = true := by kernel_rfl
theorem hb116 : hasBody Tryz.prog 116 = true := by kernel_rfl
theorem hb117 : hasBody Tryz.prog 117 = true := by kernel_rfl
theorem hb118 : hasBody Tryz.prog 118 = true := by kernel_rfl
theorem hb119 : hasBody Tryz.prog 119 = true := by kernel_rfl
theorem hb120 : hasBody Tryz.prog 120 = true := by kernel_rfl
theorem hb121 : hasBody Tryz.prog 121 = true := by kernel_rfl
theorem hb122 : hasBody Tryz.prog 122 = true := by kernel_rfl
theorem hb123 : hasBody Tryz.prog 123 = true := by kernel_rfl
theorem hb124 : hasBody Tryz.prog 124 = true := by kernel_rfl
theorem hb125 : hasBody Tryz.prog 125 = true := by kernel_rfl
theorem hb126 : hasBody Tryz.prog 126 = true := by kernel_rfl
theorem hb127 : hasBody Tryz.prog 127 = true := by kernel_rfl
theorem hb128 : hasBody Tryz.prog 128 = true := by kernel_rfl
theorem hb129 : hasBody Tryz.prog 129 = true := by kernel_rfl
theorem hb13 : hasBody Tryz.prog 13 = true := by kernel_rfl
theorem hb130 : hasBody Tryz.prog 130 = true := by kernel_rfl
theorem hb132 : hasBody Tryz.prog 132 = true := by kernel_rfl
theorem hb133 : hasBody Tryz.prog 133 = true := by kernel_rfl
theorem hb134 : hasBody Tryz.prog 134 = true := by kernel_rfl
theorem hb136 : hasBody Tryz.prog 136 = true := by kernel_rfl
theorem hb141 : hasBody Tryz.prog 141 = true := by kernel_rfl
theorem hb147 : hasBody Tryz.prog 147 = true := by kernel_rfl
theorem hb155 : hasBody Tryz.prog 155 = true := by kernel_rfl
theorem hb158 : hasBody Tryz.prog 158 = true := by kernel_rfl
theorem hb162 : hasBody Tryz.prog 162 = true := by kernel_rfl
theorem hb167 : hasBody Tryz.prog 167 = true := by kernel_rfl
theorem hb177 : hasBody Tryz.prog 177 = true := by kernel_rfl
theorem hb18 : hasBody Tryz.prog 18 = true := by kernel_rfl
theorem hb188 : hasBody Tryz.prog 188 = true := by kernel_rfl
theorem hb189 : hasBody Tryz.prog 189 = true := by kernel_rfl
theorem hb190 : hasBody Tryz.prog 190 = true := by kernel_rfl
theorem hb191 : hasBody Tryz.prog 191 = true := by kernel_rfl
theorem hb192 : hasBody Tryz.prog 192 = true := by kernel_rfl
theorem hb193 : hasBody Tryz.prog 193 = true := by kernel_rfl
theorem hb194 : hasBody Tryz.prog 194 = true := by kernel_rfl
theorem hb195 : hasBody Tryz.prog 195 = true := by kernel_rfl
theorem hb196 : hasBody Tryz.prog 196 = true := by kernel_rfl
theorem hb197 : hasBody Tryz.prog 197 = true := by kernel_rfl
theorem hb198 : hasBody Tryz.prog 198 = true := by kernel_rfl
theorem hb199 : hasBody Tryz.prog 199 = true := by kernel_rfl
theorem hb200 : hasBody Tryz.prog 200 = true := by kernel_rfl
theorem hb201 : hasBody Tryz.prog 201 = true := by kernel_rfl
theorem hb205 : hasBody Tryz.prog 205 = true := by kernel_rfl
theorem hb208 : hasBody Tryz.prog 208 = true := by kernel_rfl
theorem hb223 : hasBody Tryz.prog 223 = true := by kernel_rfl
theorem hb232 : hasBody Tryz.prog 232 = true := by kernel_rfl
theorem hb233 : hasBody Tryz.prog 233 = true := by kernel_rfl
theorem hb234 : hasBody Tryz.prog 234 = true := by kernel_rfl
theorem hb235 : hasBody Tryz.prog 235 = true := by kernel_rfl
theorem hb236 : hasBody Tryz.prog 236 = true := by kernel_rfl
theorem hb237 : hasBody Tryz.prog 237 = true := by kernel_rfl
theorem hb238 : hasBody Tryz.prog 238 = true := by kernel_rfl
theorem hb239 : hasBody Tryz.prog 239 = true := by kernel_rfl
theorem hb240 : hasBody Tryz.prog 240 = true := by kernel_rfl
theorem hb242 : hasBody Tryz.prog 242 = true := by kernel_rfl
theorem hb243 : hasBody Tryz.prog 243 = true := by kernel_rfl
theorem hb261 : hasBody Tryz.prog 261 = true := by kernel_rfl
theorem hb28 : hasBody Tryz.prog 28 = true := by kernel_rfl
theorem hb284 : hasBody Tryz.prog 284 = true := by kernel_rfl
theorem hb285 : hasBody Tryz.prog 285 = true := by kernel_rfl
theorem hb292 : hasBody Tryz.prog 292 = true := by kernel_rfl
theorem hb30 : hasBody Tryz.prog 30 = true := by kernel_rfl
theorem hb32 : hasBody Tryz.prog 32 = true := by kernel_rfl
theorem hb33 : hasBody Tryz.prog 33 = true := by kernel_rfl
theorem hb34 : hasBody Tryz.prog 34 = true := by kernel_rfl
theorem hb35 : hasBody Tryz.prog 35 = true := by kernel_rfl
theorem hb36 : hasBody Tryz.prog 36 = true := by kernel_rfl
theorem hb37 : hasBody Tryz.prog 37 = true := by kernel_rfl
theorem hb38 : hasBody Tryz.prog 38 = true := by kernel_rfl
theorem hb39 : hasBody Tryz.prog 39 = true := by kernel_rfl
theorem hb40 : hasBody Tryz.prog 40 = true := by kernel_rfl
theorem hb41 : hasBody Tryz.prog 41 = true := by kernel_rfl
theorem hb42 : hasBody Tryz.prog 42 = true := by kernel_rfl
theorem hb43 : hasBody Tryz.prog 43 = true := by kernel_rfl
theorem hb44 : hasBody Tryz.prog 44 = true := by kernel_rfl
theorem hb45 : hasBody Tryz.prog 45 = true := by kernel_rfl
theorem hb46 : hasBody Tryz.prog 46 = true := by kernel_rfl
theorem hb47 : hasBody Tryz.prog 47 = true := by kernel_rfl
theorem hb48 : hasBody Tryz.prog 48 = true := by kernel_rfl
theorem hb49 : hasBody Tryz.prog 49 = true := by kernel_rfl
theorem hb52 : hasBody Tryz.prog 52 = true := by kernel_rfl
theorem hb55 : hasBody Tryz.prog 55 = true := by kernel_rfl
theorem hb56 : hasBody Tryz.prog 56 = true := by kernel_rfl
theorem hb58 : hasBody Tryz.prog 58 = true := by kernel_rfl
theorem hb70 : hasBody Tryz.prog 70 = true := by kernel_rfl
theorem hb76 : hasBody Tryz.prog 76 = true := by kernel_rfl
theorem hb84 : hasBody Tryz.prog 84 = true := by kernel_rfl
theorem hb86 : hasBody Tryz.prog 86 = true := by kernel_rfl
theorem hb96 : hasBody Tryz.prog 96 = true := by kernel_rfl
theorem mt207 : mapT Tryz.prog 207 = some (9, 4) := by kernel_rfl
theorem nb241 : hasBody Tryz.prog 241 = false := by kernel_rfl
theorem nb319 : hasBody Tryz.prog 319 = false := by kernel_rfl
theorem pl25_0 : placeT Tryz.prog 25 0 = some (0, 1) := by kernel_rfl
theorem pl25_1 : placeT Tryz.prog 25 1 = some (1, 1) := by kernel_rfl
theorem pl45_0 : placeT Tryz.prog 45 0 = some (0, 1) := by kernel_rfl
theorem pl45_1 : placeT Tryz.prog 45 1 = some (1, 1) := by kernel_rfl
theorem pl45_2 : placeT Tryz.prog 45 2 = some (2, 1) := by kernel_rfl
theorem pl45_3 : placeT Tryz.prog 45 3 = some (3, 1) := by kernel_rfl
theorem pl77_0 : placeT Tryz.prog 77 0 = some (0, 1) := by kernel_rfl
theorem pl77_1 : placeT Tryz.prog 77 1 = some (1, 1) := by kernel_rfl
theorem pl77_2 : placeT Tryz.prog 77 2 = some (2, 1) := by kernel_rfl
theorem pl82_0 : placeT Tryz.prog 82 0 = some (0, 1) := by kernel_rfl
theorem pl82_1 : placeT Tryz.prog 82 1 = some (1, 1) := by kernel_rfl
theorem pl82_2 : placeT Tryz.prog 82 2 = some (2, 1) := by kernel_rfl
theorem pl82_3 : placeT Tryz.prog 82 3 = some (3, 1) := by kernel_rfl
theorem pl82_4 : placeT Tryz.prog 82 4 = some (4, 1) := by kernel_rfl
theorem pl82_5 : placeT Tryz.prog 82 5 = some (5, 1) := by kernel_rfl
theorem pl82_6 : placeT Tryz.prog 82 6 = some (6, 1) := by kernel_rfl
theorem pl82_7 : placeT Tryz.prog 82 7 = some (7, 1) := by kernel_rfl
theorem pl82_8 : placeT Tryz.prog 82 8 = some (8, 1) := by kernel_rfl
theorem sz22 : szT Tryz.prog 22 = some 1 := by kernel_rfl
theorem sz3 : szT Tryz.prog 3 = some 1 := by kernel_rfl
theorem sz30 : szT Tryz.prog 30 = some 1 := by kernel_rfl
theorem sz45 : szT Tryz.prog 45 = some 4 := by kernel_rfl
theorem sz50 : szT Tryz.prog 50 = some 1 := by kernel_rfl
theorem sz77 : szT Tryz.prog 77 = some 3 := by kernel_rfl
theorem sz80 : szT Tryz.prog 80 = some 1 := by kernel_rfl
theorem sz82 : szT Tryz.prog 82 = some 9 := by kernel_rfl
theorem sz9 : szT Tryz.prog 9 = some 1 := by kernel_rfl
theorem sz98 : szT Tryz.prog 98 = some 2 := by kernel_rfl
theorem un192 : (Tryz.prog).underlying 192 = some (.slice 30) := by kernel_rfl
theorem un22 : (Tryz.prog).underlying 22 = some (.slice 3) := by kernel_rfl
theorem un268 : (Tryz.prog).underlying 268 = some (.int .u64) := by kernel_rfl
theorem un3 : (Tryz.prog).underlying 3 = some (.int .i64) := by kernel_rfl
theorem un305 : (Tryz.prog).underlying 305 = some (.int .u64) := by kernel_rfl
theorem un4 : (Tryz.prog).underlying 4 = some .bool := by kernel_rfl
theorem un5 : (Tryz.prog).underlying 5 = some (.int .u8) := by kernel_rfl
theorem un50 : (Tryz.prog).underlying 50 = some (.slice 45) := by kernel_rfl
theorem un78 : (Tryz.prog).underlying 78 = some (.slice 82) := by kernel_rfl
theorem un80 : (Tryz.prog).underlying 80 = some (.slice 9) := by kernel_rfl
theorem un86 : (Tryz.prog).underlying 86 = some (.slice 77) := by kernel_rfl
theorem un89 : (Tryz.prog).underlying 89 = some (.slice 98) := by kernel_rfl
theorem un9 : (Tryz.prog).underlying 9 = some .string := by kernel_rfl
theorem z3 : zeroCells Tryz.prog 3 = some [.d (.int .i64 0)] := by kernel_rfl
theorem z45 : zeroCells Tryz.prog 45 = some [.d (.int .i64 0), .d (.int .i64 0), .d (.int .i64 0), .d (.int .i64 0)] := by kernel_rfl
theorem z77 : zeroCells Tryz.prog 77 = some [.d (.str ⟨#[]⟩), .d (.int .i64 0), .d (.int .i64 0)] := by kernel_rfl
theorem z82 : zeroCells Tryz.prog 82 = some [.d (.str ⟨#[]⟩), .d (.str ⟨#[]⟩), .d (.int .i64 0), .nil, .d (.int .i64 0), .d (.int .i64 0), .d (.int .i64 0), .nil, .d (.str ⟨#[]⟩)] := by kernel_rfl
theorem z9 : zeroCells Tryz.prog 9 = some [.d (.str ⟨#[]⟩)] := by kernel_rfl
theorem z98 : zeroCells Tryz.prog 98 = some [.d (.str ⟨#[]⟩), .d (.str ⟨#[]⟩)] := by kernel_rfl
theorem laid_utf8 : ∀ w0, Go.Eng.laidK w0 → Go.Lib.Utf8Tabs 1 2 w0 := fun _ h => h.1
theorem laid_maxlen : ∀ w0, Go.Eng.laidK w0 → ∃ m, w0.cell? ⟨0, 0, none⟩ = some (.int .i64 m) := fun _ h => h.2
end Go.Proofs.YtpojeclokolkaaaGreatDoor.Law

