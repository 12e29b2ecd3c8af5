/-
  Closed facts on the types and functions of the program.
-/
import Derived.Test.YtpojeclokolkaaaGreatDoorProg
import Derived.Test.YtpojeclokolkaaaGreatDoorEng4
open Go Go.Eng Go.Proofs
namespace Go.Proofs.YtpojeclokolkaaaGreatDoor.Law
set_option maxRecDepth 100000
set_option linter.unusedVariables false
set_option maxHeartbeats 1000000
theorem ag109 : isAggT Tryz.prog 109 = true := by kernel_rfl
theorem ag139 : isAggT Tryz.prog 139 = true := by kernel_rfl
theorem ag170 : isAggT Tryz.prog 170 = true := by kernel_rfl
theorem ag173 : isAggT Tryz.prog 173 = true := by kernel_rfl
theorem ag176 : isAggT Tryz.prog 176 = true := by kernel_rfl
theorem ag22 : isAggT Tryz.prog 22 = false := by kernel_rfl
theorem ag264 : isAggT Tryz.prog 264 = true := by kernel_rfl
theorem ag3 : isAggT Tryz.prog 3 = false := by kernel_rfl
theorem ag30 : isAggT Tryz.prog 30 = false := by kernel_rfl
theorem ag325 : isAggT Tryz.prog 325 = true := by kernel_rfl
theorem ag4 : isAggT Tryz.prog 4 = false := by kernel_rfl
theorem ag40 : isAggT Tryz.prog 40 = false := by kernel_rfl
theorem ag42 : isAggT Tryz.prog 42 = true := by kernel_rfl
theorem ag45 : isAggT Tryz.prog 45 = true := by kernel_rfl
theorem ag50 : isAggT Tryz.prog 50 = false := by kernel_rfl
theorem ag54 : isAggT Tryz.prog 54 = true := by kernel_rfl
theorem ag77 : isAggT Tryz.prog 77 = true := by kernel_rfl
theorem ag80 : isAggT Tryz.prog 80 = false := by kernel_rfl
theorem ag82 : isAggT Tryz.prog 82 = true := by kernel_rfl
theorem ag9 : isAggT Tryz.prog 9 = false := by kernel_rfl
theorem by109 : bytesT Tryz.prog 109 = 16 := by kernel_rfl
theorem by139 : bytesT Tryz.prog 139 = 48 := by kernel_rfl
theorem by264 : bytesT Tryz.prog 264 = 16 := by kernel_rfl
theorem by3 : bytesT Tryz.prog 3 = 8 := by kernel_rfl
theorem by325 : bytesT Tryz.prog 325 = 16 := by kernel_rfl
theorem by45 : bytesT Tryz.prog 45 = 32 := by kernel_rfl
theorem by54 : bytesT Tryz.prog 54 = 80 := by kernel_rfl
theorem el166 : elemT Tryz.prog 166 = some 109 := by kernel_rfl
theorem el22 : elemT Tryz.prog 22 = some 3 := by kernel_rfl
theorem el259 : elemT Tryz.prog 259 = some 264 := by kernel_rfl
theorem el287 : elemT Tryz.prog 287 = some 325 := by kernel_rfl
theorem el40 : elemT Tryz.prog 40 = some 139 := by kernel_rfl
theorem el47 : elemT Tryz.prog 47 = some 54 := by kernel_rfl
theorem el50 : elemT Tryz.prog 50 = some 45 := by kernel_rfl
theorem es166 : (elemT Tryz.prog 166).bind (szT Tryz.prog) = some 2 := by kernel_rfl
theorem es177 : (elemT Tryz.prog 177).bind (szT Tryz.prog) = some 3 := by kernel_rfl
theorem es192 : (elemT Tryz.prog 192).bind (szT Tryz.prog) = some 1 := by kernel_rfl
theorem es22 : (elemT Tryz.prog 22).bind (szT Tryz.prog) = some 1 := by kernel_rfl
theorem es248 : (elemT Tryz.prog 248).bind (szT Tryz.prog) = some 13 := by kernel_rfl
theorem es253 : (elemT Tryz.prog 253).bind (szT Tryz.prog) = some 8 := by kernel_rfl
theorem es259 : (elemT Tryz.prog 259).bind (szT Tryz.prog) = some 2 := by kernel_rfl
theorem es287 : (elemT Tryz.prog 287).bind (szT Tryz.prog) = some 2 := by kernel_rfl
theorem es289 : (elemT Tryz.prog 289).bind (szT Tryz.prog) = some 1 := by kernel_rfl
theorem es40 : (elemT Tryz.prog 40).bind (szT Tryz.prog) = some 5 := by kernel_rfl
theorem es47 : (elemT Tryz.prog 47).bind (szT Tryz.prog) = some 9 := by kernel_rfl
theorem es50 : (elemT Tryz.prog 50).bind (szT Tryz.prog) = some 4 := by kernel_rfl
theorem es78 : (elemT Tryz.prog 78).bind (szT Tryz.prog) = some 9 := by kernel_rfl
theorem es80 : (elemT Tryz.prog 80).bind (szT Tryz.prog) = some 1 := by kernel_rfl
theorem es86 : (elemT Tryz.prog 86).bind (szT Tryz.prog) = some 3 := by kernel_rfl
theorem ez166 : ((elemT Tryz.prog 166).bind (zeroCells Tryz.prog)).isSome = true := by kernel_rfl
theorem ez177 : ((elemT Tryz.prog 177).bind (zeroCells Tryz.prog)).isSome = true := by kernel_rfl
theorem ez192 : ((elemT Tryz.prog 192).bind (zeroCells Tryz.prog)).isSome = true := by kernel_rfl
theorem ez22 : ((elemT Tryz.prog 22).bind (zeroCells Tryz.prog)).isSome = true := by kernel_rfl
theorem ez248 : ((elemT Tryz.prog 248).bind (zeroCells Tryz.prog)).isSome = true := by kernel_rfl
theorem ez253 : ((elemT Tryz.prog 253).bind (zeroCells Tryz.prog)).isSome = true := by kernel_rfl
theorem ez259 : ((elemT Tryz.prog 259).bind (zeroCells Tryz.prog)).isSome = true := by kernel_rfl
theorem ez287 : ((elemT Tryz.prog 287).bind (zeroCells Tryz.prog)).isSome = true := by kernel_rfl
theorem ez289 : ((elemT Tryz.prog 289).bind (zeroCells Tryz.prog)).isSome = true := by kernel_rfl
theorem ez40 : ((elemT Tryz.prog 40).bind (zeroCells Tryz.prog)).isSome = true := by kernel_rfl
theorem ez47 : ((elemT Tryz.prog 47).bind (zeroCells Tryz.prog)).isSome = true := by kernel_rfl
theorem ez50 : ((elemT Tryz.prog 50).bind (zeroCells Tryz.prog)).isSome = true := by kernel_rfl
theorem ez78 : ((elemT Tryz.prog 78).bind (zeroCells Tryz.prog)).isSome = true := by kernel_rfl
theorem ez80 : ((elemT Tryz.prog 80).bind (zeroCells Tryz.prog)).isSome = true := by kernel_rfl
theorem ez86 : ((elemT Tryz.prog 86).bind (zeroCells Tryz.prog)).isSome = true := by kernel_rfl
theorem hb100 : hasBody Tryz.prog 100 = true := by kernel_rfl
theorem hb101 : hasBody Tryz.prog 101 = true := by kernel_rfl
theorem hb103 : hasBody Tryz.prog 103 = true := by kernel_rfl
theorem hb106 : hasBody Tryz.prog 106 = true := by kernel_rfl
theorem hb107 : hasBody Tryz.prog 107 = true := by kernel_rfl
theorem hb111 : hasBody Tryz.prog 111 = true := by kernel_rfl
theorem hb112 : hasBody Tryz.prog 112 = true := by kernel_rfl
theorem hb113 : hasBody Tryz.prog 113 = true := by kernel_rfl
theorem hb121 : hasBody Tryz.prog 121 = true := by kernel_rfl
theorem hb122 : hasBody Tryz.prog 122 = true := by kernel_rfl
theorem hb124 : hasBody Tryz.prog 124 = true := by kernel_rfl
theorem hb129 : hasBody Tryz.prog 129 = true := by kernel_rfl
theorem hb13 : hasBody Tryz.prog 13 = true := by kernel_rfl
theorem hb132 : hasBody Tryz.prog 132 = true := by kernel_rfl
theorem hb136 : hasBody Tryz.prog 136 = true := by kernel_rfl
theorem hb141 : hasBody Tryz.prog 141 = true := by kernel_rfl
theorem hb147 : hasBody Tryz.prog 147 = true := by kernel_rfl
theorem hb16 : hasBody Tryz.prog 16 = true := by kernel_rfl
theorem hb167 : hasBody Tryz.prog 167 = true := by kernel_rfl
theorem hb169 : hasBody Tryz.prog 169 = true := by kernel_rfl
theorem hb17 : hasBody Tryz.prog 17 = true := by kernel_rfl
theorem hb170 : hasBody Tryz.prog 170 = true := by kernel_rfl
theorem hb171 : hasBody Tryz.prog 171 = true := by kernel_rfl
theorem hb172 : hasBody Tryz.prog 172 = true := by kernel_rfl
theorem hb173 : hasBody Tryz.prog 173 = true := by kernel_rfl
theorem hb174 : hasBody Tryz.prog 174 = true := by kernel_rfl
theorem hb175 : hasBody Tryz.prog 175 = true := by kernel_rfl
theorem hb176 : hasBody Tryz.prog 176 = true := by kernel_rfl
theorem hb177 : hasBody Tryz.prog 177 = true := by kernel_rfl
theorem hb178 : hasBody Tryz.prog 178 = true := by kernel_rfl
theorem hb179 : hasBody Tryz.prog 179 = true := by kernel_rfl
theorem hb18 : hasBody Tryz.prog 18 = true := by kernel_rfl
theorem hb180 : hasBody Tryz.prog 180 = true := by kernel_rfl
theorem hb181 : hasBody Tryz.prog 181 = true := by kernel_rfl
theorem hb182 : hasBody Tryz.prog 182 = true := by kernel_rfl
theorem hb183 : hasBody Tryz.prog 183 = true := by kernel_rfl
theorem hb184 : hasBody Tryz.prog 184 = true := by kernel_rfl
theorem hb185 : hasBody Tryz.prog 185 = true := by kernel_rfl
theorem hb187 : hasBody Tryz.prog 187 = true := by kernel_rfl
theorem hb189 : hasBody Tryz.prog 189 = true := by kernel_rfl
theorem hb19 : hasBody Tryz.prog 19 = true := by kernel_rfl
theorem hb190 : hasBody Tryz.prog 190 = true := by kernel_rfl
theorem hb191 : hasBody Tryz.prog 191 = true := by kernel_rfl
theorem hb196 : hasBody Tryz.prog 196 = true := by kernel_rfl
theorem hb197 : hasBody Tryz.prog 197 = true := by kernel_rfl
theorem hb20 : hasBody Tryz.prog 20 = true := by kernel_rfl
theorem hb200 : hasBody Tryz.prog 200 = true := by kernel_rfl
theorem hb201 : hasBody Tryz.prog 201 = true := by kernel_rfl
theorem hb205 : hasBody Tryz.prog 205 = true := by kernel_rfl
theorem hb21 : hasBody Tryz.prog 21 = true := by kernel_rfl
theorem hb210 : hasBody Tryz.prog 210 = true := by kernel_rfl
theorem hb211 : hasBody Tryz.prog 211 = true := by kernel_rfl
theorem hb212 : hasBody Tryz.prog 212 = true := by kernel_rfl
theorem hb213 : hasBody Tryz.prog 213 = true := by kernel_rfl
theorem hb214 : hasBody Tryz.prog 214 = true := by kernel_rfl
theorem hb215 : hasBody Tryz.prog 215 = true := by kernel_rfl
theorem hb216 : hasBody Tryz.prog 216 = true := by kernel_rfl
theorem hb217 : hasBody Tryz.prog 217 = true := by kernel_rfl
theorem hb218 : hasBody Tryz.prog 218 = true := by kernel_rfl
theorem hb220 : hasBody Tryz.prog 220 = true := by kernel_rfl
theorem hb221 : hasBody Tryz.prog 221 = true := by kernel_rfl
theorem hb232 : hasBody Tryz.prog 232 = true := by kernel_rfl
theorem hb233 : hasBody Tryz.prog 233 = true := by kernel_rfl
theorem hb235 : hasBody Tryz.prog 235 = true := by kernel_rfl
theorem hb238 : hasBody Tryz.prog 238 = true := by kernel_rfl
theorem hb239 : hasBody Tryz.prog 239 = true := by kernel_rfl
theorem hb240 : hasBody Tryz.prog 240 = true := by kernel_rfl
theorem hb242 : hasBody Tryz.prog 242 = true := by kernel_rfl
theorem hb243 : hasBody Tryz.prog 243 = true := by kernel_rfl
theorem hb26 : hasBody Tryz.prog 26 = true := by kernel_rfl
theorem hb262 : hasBody Tryz.prog 262 = true := by kernel_rfl
theorem hb263 : hasBody Tryz.prog 263 = true := by kernel_rfl
theorem hb264 : hasBody Tryz.prog 264 = true := by kernel_rfl
theorem hb265 : hasBody Tryz.prog 265 = true := by kernel_rfl
theorem hb266 : hasBody Tryz.prog 266 = true := by kernel_rfl
theorem hb273 : hasBody Tryz.prog 273 = true := by kernel_rfl
theorem hb276 : hasBody Tryz.prog 276 = true := by kernel_rfl
theorem hb282 : hasBody Tryz.prog 282 = true := by kernel_rfl
theorem hb284 : hasBody Tryz.prog 284 = true := by kernel_rfl
theorem hb285 : hasBody Tryz.prog 285 = true := by kernel_rfl
theorem hb291 : hasBody Tryz.prog 291 = true := by kernel_rfl
theorem hb292 : hasBody Tryz.prog 292 = true := by kernel_rfl
theorem hb299 : hasBody Tryz.prog 299 = true := by kernel_rfl
theorem hb30 : hasBody Tryz.prog 30 = true := by kernel_rfl
theorem hb300 : hasBody Tryz.prog 300 = true := by kernel_rfl
theorem hb304 : hasBody Tryz.prog 304 = true := by kernel_rfl
theorem hb318 : hasBody Tryz.prog 318 = true := by kernel_rfl
theorem hb34 : hasBody Tryz.prog 34 = true := by kernel_rfl
theorem hb41 : hasBody Tryz.prog 41 = true := by kernel_rfl
theorem hb56 : hasBody Tryz.prog 56 = true := by kernel_rfl
theorem hb84 : hasBody Tryz.prog 84 = true := by kernel_rfl
theorem hb86 : hasBody Tryz.prog 86 = true := by kernel_rfl
theorem hb89 : hasBody Tryz.prog 89 = true := by kernel_rfl
theorem hb90 : hasBody Tryz.prog 90 = true := by kernel_rfl
theorem hb91 : hasBody Tryz.prog 91 = true := by kernel_rfl
theorem hb92 : hasBody Tryz.prog 92 = true := by kernel_rfl
theorem hb93 : hasBody Tryz.prog 93 = true := by kernel_rfl
theorem hb94 : hasBody Tryz.prog 94 = true := by kernel_rfl
theorem hb95 : hasBody Tryz.prog 95 = true := by kernel_rfl
theorem hb96 : hasBody Tryz.prog 96 = true := by kernel_rfl
theorem hb97 : hasBody Tryz.prog 97 = true := by kernel_rfl
theorem hb98 : hasBody Tryz.prog 98 = true := by kernel_rfl
theorem hb99 : hasBody Tryz.prog 99 = true := by kernel_rfl
theorem mt207 : mapT Tryz.prog 207 = some (9, 4) := by kernel_rfl
theorem nb241 : hasBody Tryz.prog 241 = false := by kernel_rfl
theorem nb319 : hasBody Tryz.prog 319 = false := by kernel_rfl
theorem pl109_0 : placeT Tryz.prog 109 0 = some (0, 1) := by kernel_rfl
theorem pl109_1 : placeT Tryz.prog 109 1 = some (1, 1) := by kernel_rfl
theorem pl139_0 : placeT Tryz.prog 139 0 = some (0, 1) := by kernel_rfl
theorem pl139_1 : placeT Tryz.prog 139 1 = some (1, 4) := by kernel_rfl
theorem pl170_0 : placeT Tryz.prog 170 0 = some (0, 1) := by kernel_rfl
theorem pl170_1 : placeT Tryz.prog 170 1 = some (1, 1) := by kernel_rfl
theorem pl170_10 : placeT Tryz.prog 170 10 = some (10, 1) := by kernel_rfl
theorem pl170_11 : placeT Tryz.prog 170 11 = some (11, 1) := by kernel_rfl
theorem pl170_12 : placeT Tryz.prog 170 12 = some (12, 1) := by kernel_rfl
theorem pl170_2 : placeT Tryz.prog 170 2 = some (2, 1) := by kernel_rfl
theorem pl170_3 : placeT Tryz.prog 170 3 = some (3, 1) := by kernel_rfl
theorem pl170_4 : placeT Tryz.prog 170 4 = some (4, 1) := by kernel_rfl
theorem pl170_5 : placeT Tryz.prog 170 5 = some (5, 1) := by kernel_rfl
theorem pl170_6 : placeT Tryz.prog 170 6 = some (6, 1) := by kernel_rfl
theorem pl170_7 : placeT Tryz.prog 170 7 = some (7, 1) := by kernel_rfl
theorem pl170_8 : placeT Tryz.prog 170 8 = some (8, 1) := by kernel_rfl
theorem pl170_9 : placeT Tryz.prog 170 9 = some (9, 1) := by kernel_rfl
theorem pl173_0 : placeT Tryz.prog 173 0 = some (0, 1) := by kernel_rfl
theorem pl173_1 : placeT Tryz.prog 173 1 = some (1, 1) := by kernel_rfl
theorem pl173_2 : placeT Tryz.prog 173 2 = some (2, 2) := by kernel_rfl
theorem pl173_3 : placeT Tryz.prog 173 3 = some (4, 1) := by kernel_rfl
theorem pl173_4 : placeT Tryz.prog 173 4 = some (5, 1) := by kernel_rfl
theorem pl173_5 : placeT Tryz.prog 173 5 = some (6, 1) := by kernel_rfl
theorem pl173_6 : placeT Tryz.prog 173 6 = some (7, 1) := by kernel_rfl
theorem pl176_0 : placeT Tryz.prog 176 0 = some (0, 1) := by kernel_rfl
theorem pl176_1 : placeT Tryz.prog 176 1 = some (1, 1) := by kernel_rfl
theorem pl176_2 : placeT Tryz.prog 176 2 = some (2, 1) := by kernel_rfl
theorem pl25_0 : placeT Tryz.prog 25 0 = some (0, 1) := by kernel_rfl
theorem pl25_1 : placeT Tryz.prog 25 1 = some (1, 1) := by kernel_rfl
theorem pl264_0 : placeT Tryz.prog 264 0 = some (0, 1) := by kernel_rfl
theorem pl264_1 : placeT Tryz.prog 264 1 = some (1, 1) := by kernel_rfl
theorem pl325_0 : placeT Tryz.prog 325 0 = some (0, 1) := by kernel_rfl
theorem pl325_1 : placeT Tryz.prog 325 1 = some (1, 1) := by kernel_rfl
theorem pl42_0 : placeT Tryz.prog 42 0 = some (0, 1) := by kernel_rfl
theorem pl42_1 : placeT Tryz.prog 42 1 = some (1, 1) := by kernel_rfl
theorem pl42_2 : placeT Tryz.prog 42 2 = some (2, 1) := by kernel_rfl
theorem pl42_3 : placeT Tryz.prog 42 3 = some (3, 1) := by kernel_rfl
theorem pl45_0 : placeT Tryz.prog 45 0 = some (0, 1) := by kernel_rfl
theorem pl45_1 : placeT Tryz.prog 45 1 = some (1, 1) := by kernel_rfl
theorem pl45_2 : placeT Tryz.prog 45 2 = some (2, 1) := by kernel_rfl
theorem pl45_3 : placeT Tryz.prog 45 3 = some (3, 1) := by kernel_rfl
theorem pl54_1 : placeT Tryz.prog 54 1 = some (1, 4) := by kernel_rfl
theorem pl54_2 : placeT Tryz.prog 54 2 = some (5, 4) := by kernel_rfl
theorem pl77_0 : placeT Tryz.prog 77 0 = some (0, 1) := by kernel_rfl
theorem pl77_1 : placeT Tryz.prog 77 1 = some (1, 1) := by kernel_rfl
theorem pl77_2 : placeT Tryz.prog 77 2 = some (2, 1) := by kernel_rfl
theorem pl82_0 : placeT Tryz.prog 82 0 = some (0, 1) := by kernel_rfl
theorem pl82_1 : placeT Tryz.prog 82 1 = some (1, 1) := by kernel_rfl
theorem pl82_2 : placeT Tryz.prog 82 2 = some (2, 1) := by kernel_rfl
theorem pl82_3 : placeT Tryz.prog 82 3 = some (3, 1) := by kernel_rfl
theorem pl82_4 : placeT Tryz.prog 82 4 = some (4, 1) := by kernel_rfl
theorem pl82_5 : placeT Tryz.prog 82 5 = some (5, 1) := by kernel_rfl
theorem pl82_6 : placeT Tryz.prog 82 6 = some (6, 1) := by kernel_rfl
theorem pl82_7 : placeT Tryz.prog 82 7 = some (7, 1) := by kernel_rfl
theorem pl82_8 : placeT Tryz.prog 82 8 = some (8, 1) := by kernel_rfl
theorem sz109 : szT Tryz.prog 109 = some 2 := by kernel_rfl
theorem sz139 : szT Tryz.prog 139 = some 5 := by kernel_rfl
theorem sz170 : szT Tryz.prog 170 = some 13 := by kernel_rfl
theorem sz173 : szT Tryz.prog 173 = some 8 := by kernel_rfl
theorem sz176 : szT Tryz.prog 176 = some 3 := by kernel_rfl
theorem sz22 : szT Tryz.prog 22 = some 1 := by kernel_rfl
theorem sz264 : szT Tryz.prog 264 = some 2 := by kernel_rfl
theorem sz3 : szT Tryz.prog 3 = some 1 := by kernel_rfl
theorem sz30 : szT Tryz.prog 30 = some 1 := by kernel_rfl
theorem sz325 : szT Tryz.prog 325 = some 2 := by kernel_rfl
theorem sz4 : szT Tryz.prog 4 = some 1 := by kernel_rfl
theorem sz40 : szT Tryz.prog 40 = some 1 := by kernel_rfl
theorem sz42 : szT Tryz.prog 42 = some 4 := by kernel_rfl
theorem sz45 : szT Tryz.prog 45 = some 4 := by kernel_rfl
theorem sz50 : szT Tryz.prog 50 = some 1 := by kernel_rfl
theorem sz54 : szT Tryz.prog 54 = some 9 := by kernel_rfl
theorem sz77 : szT Tryz.prog 77 = some 3 := by kernel_rfl
theorem sz80 : szT Tryz.prog 80 = some 1 := by kernel_rfl
theorem sz82 : szT Tryz.prog 82 = some 9 := by kernel_rfl
theorem sz9 : szT Tryz.prog 9 = some 1 := by kernel_rfl
theorem un166 : (Tryz.prog).underlying 166 = some (.slice 109) := by kernel_rfl
theorem un177 : (Tryz.prog).underlying 177 = some (.slice 176) := by kernel_rfl
theorem un186 : (Tryz.prog).underlying 186 = some (.array 2 45) := by kernel_rfl
theorem un192 : (Tryz.prog).underlying 192 = some (.slice 30) := by kernel_rfl
theorem un22 : (Tryz.prog).underlying 22 = some (.slice 3) := by kernel_rfl
theorem un248 : (Tryz.prog).underlying 248 = some (.slice 170) := by kernel_rfl
theorem un253 : (Tryz.prog).underlying 253 = some (.slice 173) := by kernel_rfl
theorem un259 : (Tryz.prog).underlying 259 = some (.slice 264) := by kernel_rfl
theorem un268 : (Tryz.prog).underlying 268 = some (.int .u64) := by kernel_rfl
theorem un287 : (Tryz.prog).underlying 287 = some (.slice 325) := by kernel_rfl
theorem un289 : (Tryz.prog).underlying 289 = some (.slice 50) := by kernel_rfl
theorem un3 : (Tryz.prog).underlying 3 = some (.int .i64) := by kernel_rfl
theorem un305 : (Tryz.prog).underlying 305 = some (.int .u64) := by kernel_rfl
theorem un4 : (Tryz.prog).underlying 4 = some .bool := by kernel_rfl
theorem un40 : (Tryz.prog).underlying 40 = some (.slice 139) := by kernel_rfl
theorem un47 : (Tryz.prog).underlying 47 = some (.slice 54) := by kernel_rfl
theorem un5 : (Tryz.prog).underlying 5 = some (.int .u8) := by kernel_rfl
theorem un50 : (Tryz.prog).underlying 50 = some (.slice 45) := by kernel_rfl
theorem un78 : (Tryz.prog).underlying 78 = some (.slice 82) := by kernel_rfl
theorem un80 : (Tryz.prog).underlying 80 = some (.slice 9) := by kernel_rfl
theorem un86 : (Tryz.prog).underlying 86 = some (.slice 77) := by kernel_rfl
theorem un9 : (Tryz.prog).underlying 9 = some .string := by kernel_rfl
theorem z109 : zeroCells Tryz.prog 109 = some [.d (.int .i64 0), .d (.int .i64 0)] := by kernel_rfl
theorem z139 : zeroCells Tryz.prog 139 = some [.d (.str ⟨#[]⟩), .d (.int .i64 0), .d (.int .i64 0), .d (.int .i64 0), .d (.int .i64 0)] := by kernel_rfl
theorem z170 : zeroCells Tryz.prog 170 = some [.d (.str ⟨#[]⟩), .d (.str ⟨#[]⟩), .d (.int .i64 0), .d (.int .i64 0), .d (.int .i64 0), .d (.int .i64 0), .d (.int .i64 0), .nil, .d (.int .i64 0), .d (.int .i64 0), .d (.int .i64 0), .nil, .d (.bool false)] := by kernel_rfl
theorem z173 : zeroCells Tryz.prog 173 = some [.d (.str ⟨#[]⟩), .d (.str ⟨#[]⟩), .d (.int .i64 0), .d (.int .i64 0), .nil, .d (.int .i64 0), .d (.int .i64 0), .d (.int .i64 0)] := by kernel_rfl
theorem z176 : zeroCells Tryz.prog 176 = some [.d (.str ⟨#[]⟩), .d (.int .i64 0), .d (.int .i64 0)] := by kernel_rfl
theorem z264 : zeroCells Tryz.prog 264 = some [.d (.int .i64 0), .d (.int .i64 0)] := by kernel_rfl
theorem z3 : zeroCells Tryz.prog 3 = some [.d (.int .i64 0)] := by kernel_rfl
theorem z325 : zeroCells Tryz.prog 325 = some [.d (.int .i64 0), .d (.int .i64 0)] := by kernel_rfl
theorem z42 : zeroCells Tryz.prog 42 = some [.d (.str ⟨#[]⟩), .d (.int .i64 0), .d (.int .i64 0), .nil] := by kernel_rfl
theorem z45 : zeroCells Tryz.prog 45 = some [.d (.int .i64 0), .d (.int .i64 0), .d (.int .i64 0), .d (.int .i64 0)] := by kernel_rfl
theorem z54 : zeroCells Tryz.prog 54 = some [.d (.str ⟨#[]⟩), .d (.int .i64 0), .d (.int .i64 0), .d (.int .i64 0), .d (.int .i64 0), .d (.int .i64 0), .d (.int .i64 0), .d (.int .i64 0), .d (.int .i64 0)] := by kernel_rfl
theorem z77 : zeroCells Tryz.prog 77 = some [.d (.str ⟨#[]⟩), .d (.int .i64 0), .d (.int .i64 0)] := by kernel_rfl
theorem z82 : zeroCells Tryz.prog 82 = some [.d (.str ⟨#[]⟩), .d (.str ⟨#[]⟩), .d (.int .i64 0), .nil, .d (.int .i64 0), .d (.int .i64 0), .d (.int .i64 0), .nil, .d (.str ⟨#[]⟩)] := by kernel_rfl
end Go.Proofs.YtpojeclokolkaaaGreatDoor.Law

