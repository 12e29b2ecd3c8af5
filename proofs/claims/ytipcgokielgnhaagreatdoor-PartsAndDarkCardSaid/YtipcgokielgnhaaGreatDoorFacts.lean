/-
  Closed facts on the types and functions of the program.
-/
import Derived.Test.YtipcgokielgnhaaGreatDoorProg
import Derived.Test.YtipcgokielgnhaaGreatDoorEng4
open Go Go.Eng Go.Proofs
namespace Go.Proofs.YtipcgokielgnhaaGreatDoor.Law
set_option maxRecDepth 100000
set_option linter.unusedVariables false
set_option maxHeartbeats 1000000
theorem ag112 : isAggT Tryz.prog 112 = true := by kernel_rfl
theorem ag114 : isAggT Tryz.prog 114 = true := by kernel_rfl
theorem ag118 : isAggT Tryz.prog 118 = true := by kernel_rfl
theorem ag131 : isAggT Tryz.prog 131 = true := by kernel_rfl
theorem ag158 : isAggT Tryz.prog 158 = true := by kernel_rfl
theorem ag189 : isAggT Tryz.prog 189 = true := by kernel_rfl
theorem ag22 : isAggT Tryz.prog 22 = false := by kernel_rfl
theorem ag27 : isAggT Tryz.prog 27 = false := by kernel_rfl
theorem ag29 : isAggT Tryz.prog 29 = true := by kernel_rfl
theorem ag3 : isAggT Tryz.prog 3 = false := by kernel_rfl
theorem ag30 : isAggT Tryz.prog 30 = false := by kernel_rfl
theorem ag4 : isAggT Tryz.prog 4 = false := by kernel_rfl
theorem ag49 : isAggT Tryz.prog 49 = false := by kernel_rfl
theorem ag51 : isAggT Tryz.prog 51 = true := by kernel_rfl
theorem ag58 : isAggT Tryz.prog 58 = true := by kernel_rfl
theorem ag66 : isAggT Tryz.prog 66 = false := by kernel_rfl
theorem ag83 : isAggT Tryz.prog 83 = true := by kernel_rfl
theorem ag88 : isAggT Tryz.prog 88 = true := by kernel_rfl
theorem ag9 : isAggT Tryz.prog 9 = false := by kernel_rfl
theorem ag90 : isAggT Tryz.prog 90 = true := by kernel_rfl
theorem by131 : bytesT Tryz.prog 131 = 48 := by kernel_rfl
theorem by158 : bytesT Tryz.prog 158 = 16 := by kernel_rfl
theorem by189 : bytesT Tryz.prog 189 = 16 := by kernel_rfl
theorem by29 : bytesT Tryz.prog 29 = 32 := by kernel_rfl
theorem by3 : bytesT Tryz.prog 3 = 8 := by kernel_rfl
theorem by58 : bytesT Tryz.prog 58 = 80 := by kernel_rfl
theorem by88 : bytesT Tryz.prog 88 = 16 := by kernel_rfl
theorem el108 : elemT Tryz.prog 108 = some 88 := by kernel_rfl
theorem el153 : elemT Tryz.prog 153 = some 158 := by kernel_rfl
theorem el172 : elemT Tryz.prog 172 = some 189 := by kernel_rfl
theorem el22 : elemT Tryz.prog 22 = some 3 := by kernel_rfl
theorem el27 : elemT Tryz.prog 27 = some 29 := by kernel_rfl
theorem el49 : elemT Tryz.prog 49 = some 131 := by kernel_rfl
theorem el53 : elemT Tryz.prog 53 = some 58 := by kernel_rfl
theorem es108 : (elemT Tryz.prog 108).bind (szT Tryz.prog) = some 2 := by kernel_rfl
theorem es121 : (elemT Tryz.prog 121).bind (szT Tryz.prog) = some 1 := by kernel_rfl
theorem es123 : (elemT Tryz.prog 123).bind (szT Tryz.prog) = some 1 := by kernel_rfl
theorem es153 : (elemT Tryz.prog 153).bind (szT Tryz.prog) = some 2 := by kernel_rfl
theorem es160 : (elemT Tryz.prog 160).bind (szT Tryz.prog) = some 13 := by kernel_rfl
theorem es165 : (elemT Tryz.prog 165).bind (szT Tryz.prog) = some 9 := by kernel_rfl
theorem es166 : (elemT Tryz.prog 166).bind (szT Tryz.prog) = some 3 := by kernel_rfl
theorem es172 : (elemT Tryz.prog 172).bind (szT Tryz.prog) = some 2 := by kernel_rfl
theorem es22 : (elemT Tryz.prog 22).bind (szT Tryz.prog) = some 1 := by kernel_rfl
theorem es27 : (elemT Tryz.prog 27).bind (szT Tryz.prog) = some 4 := by kernel_rfl
theorem es49 : (elemT Tryz.prog 49).bind (szT Tryz.prog) = some 5 := by kernel_rfl
theorem es53 : (elemT Tryz.prog 53).bind (szT Tryz.prog) = some 9 := by kernel_rfl
theorem es66 : (elemT Tryz.prog 66).bind (szT Tryz.prog) = some 1 := by kernel_rfl
theorem es81 : (elemT Tryz.prog 81).bind (szT Tryz.prog) = some 3 := by kernel_rfl
theorem es85 : (elemT Tryz.prog 85).bind (szT Tryz.prog) = some 8 := by kernel_rfl
theorem ez108 : ((elemT Tryz.prog 108).bind (zeroCells Tryz.prog)).isSome = true := by kernel_rfl
theorem ez121 : ((elemT Tryz.prog 121).bind (zeroCells Tryz.prog)).isSome = true := by kernel_rfl
theorem ez123 : ((elemT Tryz.prog 123).bind (zeroCells Tryz.prog)).isSome = true := by kernel_rfl
theorem ez153 : ((elemT Tryz.prog 153).bind (zeroCells Tryz.prog)).isSome = true := by kernel_rfl
theorem ez160 : ((elemT Tryz.prog 160).bind (zeroCells Tryz.prog)).isSome = true := by kernel_rfl
theorem ez165 : ((elemT Tryz.prog 165).bind (zeroCells Tryz.prog)).isSome = true := by kernel_rfl
theorem ez166 : ((elemT Tryz.prog 166).bind (zeroCells Tryz.prog)).isSome = true := by kernel_rfl
theorem ez172 : ((elemT Tryz.prog 172).bind (zeroCells Tryz.prog)).isSome = true := by kernel_rfl
theorem ez22 : ((elemT Tryz.prog 22).bind (zeroCells Tryz.prog)).isSome = true := by kernel_rfl
theorem ez27 : ((elemT Tryz.prog 27).bind (zeroCells Tryz.prog)).isSome = true := by kernel_rfl
theorem ez49 : ((elemT Tryz.prog 49).bind (zeroCells Tryz.prog)).isSome = true := by kernel_rfl
theorem ez53 : ((elemT Tryz.prog 53).bind (zeroCells Tryz.prog)).isSome = true := by kernel_rfl
theorem ez66 : ((elemT Tryz.prog 66).bind (zeroCells Tryz.prog)).isSome = true := by kernel_rfl
theorem ez81 : ((elemT Tryz.prog 81).bind (zeroCells Tryz.prog)).isSome = true := by kernel_rfl
theorem ez85 : ((elemT Tryz.prog 85).bind (zeroCells Tryz.prog)).isSome = true := by kernel_rfl
theorem hb10 : hasBody Tryz.prog 10 = true := by kernel_rfl
theorem hb100 : hasBody Tryz.prog 100 = true := by kernel_rfl
theorem hb101 : hasBody Tryz.prog 101 = true := by kernel_rfl
theorem hb102 : hasBody Tryz.prog 102 = true := by kernel_rfl
theorem hb103 : hasBody Tryz.prog 103 = true := by kernel_rfl
theorem hb105 : hasBody Tryz.prog 105 = true := by kernel_rfl
theorem hb106 : hasBody Tryz.prog 106 = true := by kernel_rfl
theorem hb107 : hasBody Tryz.prog 107 = true := by kernel_rfl
theorem hb108 : hasBody Tryz.prog 108 = true := by kernel_rfl
theorem hb109 : hasBody Tryz.prog 109 = true := by kernel_rfl
theorem hb110 : hasBody Tryz.prog 110 = true := by kernel_rfl
theorem hb111 : hasBody Tryz.prog 111 = true := by kernel_rfl
theorem hb112 : hasBody Tryz.prog 112 = true := by kernel_rfl
theorem hb113 : hasBody Tryz.prog 113 = true := by kernel_rfl
theorem hb114 : hasBody Tryz.prog 114 = true := by kernel_rfl
theorem hb115 : hasBody Tryz.prog 115 = true := by kernel_rfl
theorem hb116 : hasBody Tryz.prog 116 = true := by kernel_rfl
theorem hb117 : hasBody Tryz.prog 117 = true := by kernel_rfl
theorem hb124 : hasBody Tryz.prog 124 = true := by kernel_rfl
theorem hb128 : hasBody Tryz.prog 128 = true := by kernel_rfl
theorem hb129 : hasBody Tryz.prog 129 = true := by kernel_rfl
theorem hb130 : hasBody Tryz.prog 130 = true := by kernel_rfl
theorem hb131 : hasBody Tryz.prog 131 = true := by kernel_rfl
theorem hb132 : hasBody Tryz.prog 132 = true := by kernel_rfl
theorem hb133 : hasBody Tryz.prog 133 = true := by kernel_rfl
theorem hb134 : hasBody Tryz.prog 134 = true := by kernel_rfl
theorem hb135 : hasBody Tryz.prog 135 = true := by kernel_rfl
theorem hb136 : hasBody Tryz.prog 136 = true := by kernel_rfl
theorem hb137 : hasBody Tryz.prog 137 = true := by kernel_rfl
theorem hb138 : hasBody Tryz.prog 138 = true := by kernel_rfl
theorem hb14 : hasBody Tryz.prog 14 = true := by kernel_rfl
theorem hb144 : hasBody Tryz.prog 144 = true := by kernel_rfl
theorem hb145 : hasBody Tryz.prog 145 = true := by kernel_rfl
theorem hb15 : hasBody Tryz.prog 15 = true := by kernel_rfl
theorem hb153 : hasBody Tryz.prog 153 = true := by kernel_rfl
theorem hb154 : hasBody Tryz.prog 154 = true := by kernel_rfl
theorem hb155 : hasBody Tryz.prog 155 = true := by kernel_rfl
theorem hb156 : hasBody Tryz.prog 156 = true := by kernel_rfl
theorem hb157 : hasBody Tryz.prog 157 = true := by kernel_rfl
theorem hb158 : hasBody Tryz.prog 158 = true := by kernel_rfl
theorem hb163 : hasBody Tryz.prog 163 = true := by kernel_rfl
theorem hb164 : hasBody Tryz.prog 164 = true := by kernel_rfl
theorem hb165 : hasBody Tryz.prog 165 = true := by kernel_rfl
theorem hb169 : hasBody Tryz.prog 169 = true := by kernel_rfl
theorem hb170 : hasBody Tryz.prog 170 = true := by kernel_rfl
theorem hb171 : hasBody Tryz.prog 171 = true := by kernel_rfl
theorem hb177 : hasBody Tryz.prog 177 = true := by kernel_rfl
theorem hb182 : hasBody Tryz.prog 182 = true := by kernel_rfl
theorem hb19 : hasBody Tryz.prog 19 = true := by kernel_rfl
theorem hb20 : hasBody Tryz.prog 20 = true := by kernel_rfl
theorem hb21 : hasBody Tryz.prog 21 = true := by kernel_rfl
theorem hb22 : hasBody Tryz.prog 22 = true := by kernel_rfl
theorem hb24 : hasBody Tryz.prog 24 = true := by kernel_rfl
theorem hb25 : hasBody Tryz.prog 25 = true := by kernel_rfl
theorem hb26 : hasBody Tryz.prog 26 = true := by kernel_rfl
theorem hb35 : hasBody Tryz.prog 35 = true := by kernel_rfl
theorem hb38 : hasBody Tryz.prog 38 = true := by kernel_rfl
theorem hb42 : hasBody Tryz.prog 42 = true := by kernel_rfl
theorem hb43 : hasBody Tryz.prog 43 = true := by kernel_rfl
theorem hb44 : hasBody Tryz.prog 44 = true := by kernel_rfl
theorem hb45 : hasBody Tryz.prog 45 = true := by kernel_rfl
theorem hb47 : hasBody Tryz.prog 47 = true := by kernel_rfl
theorem hb48 : hasBody Tryz.prog 48 = true := by kernel_rfl
theorem hb49 : hasBody Tryz.prog 49 = true := by kernel_rfl
theorem hb50 : hasBody Tryz.prog 50 = true := by kernel_rfl
theorem hb51 : hasBody Tryz.prog 51 = true := by kernel_rfl
theorem hb52 : hasBody Tryz.prog 52 = true := by kernel_rfl
theorem hb53 : hasBody Tryz.prog 53 = true := by kernel_rfl
theorem hb54 : hasBody Tryz.prog 54 = true := by kernel_rfl
theorem hb55 : hasBody Tryz.prog 55 = true := by kernel_rfl
theorem hb57 : hasBody Tryz.prog 57 = true := by kernel_rfl
theorem hb58 : hasBody Tryz.prog 58 = true := by kernel_rfl
theorem hb59 : hasBody Tryz.prog 59 = true := by kernel_rfl
theorem hb60 : hasBody Tryz.prog 60 = true := by kernel_rfl
theorem hb61 : hasBody Tryz.prog 61 = true := by kernel_rfl
theorem hb62 : hasBody Tryz.prog 62 = true := by kernel_rfl
theorem hb63 : hasBody Tryz.prog 63 = true := by kernel_rfl
theorem hb72 : hasBody Tryz.prog 72 = true := by kernel_rfl
theorem hb73 : hasBody Tryz.prog 73 = true := by kernel_rfl
theorem hb74 : hasBody Tryz.prog 74 = true := by kernel_rfl
theorem hb75 : hasBody Tryz.prog 75 = true := by kernel_rfl
theorem hb78 : hasBody Tryz.prog 78 = true := by kernel_rfl
theorem hb79 : hasBody Tryz.prog 79 = true := by kernel_rfl
theorem hb80 : hasBody Tryz.prog 80 = true := by kernel_rfl
theorem hb81 : hasBody Tryz.prog 81 = true := by kernel_rfl
theorem hb82 : hasBody Tryz.prog 82 = true := by kernel_rfl
theorem hb83 : hasBody Tryz.prog 83 = true := by kernel_rfl
theorem hb84 : hasBody Tryz.prog 84 = true := by kernel_rfl
theorem hb85 : hasBody Tryz.prog 85 = true := by kernel_rfl
theorem hb86 : hasBody Tryz.prog 86 = true := by kernel_rfl
theorem hb87 : hasBody Tryz.prog 87 = true := by kernel_rfl
theorem hb88 : hasBody Tryz.prog 88 = true := by kernel_rfl
theorem hb89 : hasBody Tryz.prog 89 = true := by kernel_rfl
theorem hb90 : hasBody Tryz.prog 90 = true := by kernel_rfl
theorem hb91 : hasBody Tryz.prog 91 = true := by kernel_rfl
theorem hb92 : hasBody Tryz.prog 92 = true := by kernel_rfl
theorem hb93 : hasBody Tryz.prog 93 = true := by kernel_rfl
theorem hb94 : hasBody Tryz.prog 94 = true := by kernel_rfl
theorem hb95 : hasBody Tryz.prog 95 = true := by kernel_rfl
theorem hb96 : hasBody Tryz.prog 96 = true := by kernel_rfl
theorem hb97 : hasBody Tryz.prog 97 = true := by kernel_rfl
theorem hb98 : hasBody Tryz.prog 98 = true := by kernel_rfl
theorem hb99 : hasBody Tryz.prog 99 = true := by kernel_rfl
theorem mt208 : mapT Tryz.prog 208 = some (9, 4) := by kernel_rfl
theorem nb166 : hasBody Tryz.prog 166 = false := by kernel_rfl
theorem nb167 : hasBody Tryz.prog 167 = false := by kernel_rfl
theorem pl112_0 : placeT Tryz.prog 112 0 = some (0, 1) := by kernel_rfl
theorem pl112_1 : placeT Tryz.prog 112 1 = some (1, 1) := by kernel_rfl
theorem pl112_10 : placeT Tryz.prog 112 10 = some (10, 1) := by kernel_rfl
theorem pl112_11 : placeT Tryz.prog 112 11 = some (11, 1) := by kernel_rfl
theorem pl112_12 : placeT Tryz.prog 112 12 = some (12, 1) := by kernel_rfl
theorem pl112_2 : placeT Tryz.prog 112 2 = some (2, 1) := by kernel_rfl
theorem pl112_3 : placeT Tryz.prog 112 3 = some (3, 1) := by kernel_rfl
theorem pl112_4 : placeT Tryz.prog 112 4 = some (4, 1) := by kernel_rfl
theorem pl112_5 : placeT Tryz.prog 112 5 = some (5, 1) := by kernel_rfl
theorem pl112_6 : placeT Tryz.prog 112 6 = some (6, 1) := by kernel_rfl
theorem pl112_7 : placeT Tryz.prog 112 7 = some (7, 1) := by kernel_rfl
theorem pl112_8 : placeT Tryz.prog 112 8 = some (8, 1) := by kernel_rfl
theorem pl112_9 : placeT Tryz.prog 112 9 = some (9, 1) := by kernel_rfl
theorem pl114_0 : placeT Tryz.prog 114 0 = some (0, 1) := by kernel_rfl
theorem pl114_1 : placeT Tryz.prog 114 1 = some (1, 1) := by kernel_rfl
theorem pl114_2 : placeT Tryz.prog 114 2 = some (2, 1) := by kernel_rfl
theorem pl114_3 : placeT Tryz.prog 114 3 = some (3, 1) := by kernel_rfl
theorem pl114_4 : placeT Tryz.prog 114 4 = some (4, 1) := by kernel_rfl
theorem pl114_5 : placeT Tryz.prog 114 5 = some (5, 1) := by kernel_rfl
theorem pl114_6 : placeT Tryz.prog 114 6 = some (6, 1) := by kernel_rfl
theorem pl114_7 : placeT Tryz.prog 114 7 = some (7, 1) := by kernel_rfl
theorem pl114_8 : placeT Tryz.prog 114 8 = some (8, 1) := by kernel_rfl
theorem pl118_0 : placeT Tryz.prog 118 0 = some (0, 1) := by kernel_rfl
theorem pl118_1 : placeT Tryz.prog 118 1 = some (1, 1) := by kernel_rfl
theorem pl118_2 : placeT Tryz.prog 118 2 = some (2, 1) := by kernel_rfl
theorem pl131_0 : placeT Tryz.prog 131 0 = some (0, 1) := by kernel_rfl
theorem pl131_1 : placeT Tryz.prog 131 1 = some (1, 4) := by kernel_rfl
theorem pl158_0 : placeT Tryz.prog 158 0 = some (0, 1) := by kernel_rfl
theorem pl158_1 : placeT Tryz.prog 158 1 = some (1, 1) := by kernel_rfl
theorem pl189_0 : placeT Tryz.prog 189 0 = some (0, 1) := by kernel_rfl
theorem pl189_1 : placeT Tryz.prog 189 1 = some (1, 1) := by kernel_rfl
theorem pl25_0 : placeT Tryz.prog 25 0 = some (0, 1) := by kernel_rfl
theorem pl25_1 : placeT Tryz.prog 25 1 = some (1, 1) := by kernel_rfl
theorem pl29_0 : placeT Tryz.prog 29 0 = some (0, 1) := by kernel_rfl
theorem pl29_1 : placeT Tryz.prog 29 1 = some (1, 1) := by kernel_rfl
theorem pl29_2 : placeT Tryz.prog 29 2 = some (2, 1) := by kernel_rfl
theorem pl29_3 : placeT Tryz.prog 29 3 = some (3, 1) := by kernel_rfl
theorem pl51_0 : placeT Tryz.prog 51 0 = some (0, 1) := by kernel_rfl
theorem pl51_1 : placeT Tryz.prog 51 1 = some (1, 1) := by kernel_rfl
theorem pl51_2 : placeT Tryz.prog 51 2 = some (2, 1) := by kernel_rfl
theorem pl51_3 : placeT Tryz.prog 51 3 = some (3, 1) := by kernel_rfl
theorem pl58_1 : placeT Tryz.prog 58 1 = some (1, 4) := by kernel_rfl
theorem pl58_2 : placeT Tryz.prog 58 2 = some (5, 4) := by kernel_rfl
theorem pl83_0 : placeT Tryz.prog 83 0 = some (0, 1) := by kernel_rfl
theorem pl83_1 : placeT Tryz.prog 83 1 = some (1, 1) := by kernel_rfl
theorem pl83_2 : placeT Tryz.prog 83 2 = some (2, 1) := by kernel_rfl
theorem pl88_0 : placeT Tryz.prog 88 0 = some (0, 1) := by kernel_rfl
theorem pl88_1 : placeT Tryz.prog 88 1 = some (1, 1) := by kernel_rfl
theorem pl90_0 : placeT Tryz.prog 90 0 = some (0, 1) := by kernel_rfl
theorem pl90_1 : placeT Tryz.prog 90 1 = some (1, 1) := by kernel_rfl
theorem pl90_2 : placeT Tryz.prog 90 2 = some (2, 2) := by kernel_rfl
theorem pl90_3 : placeT Tryz.prog 90 3 = some (4, 1) := by kernel_rfl
theorem pl90_4 : placeT Tryz.prog 90 4 = some (5, 1) := by kernel_rfl
theorem pl90_5 : placeT Tryz.prog 90 5 = some (6, 1) := by kernel_rfl
theorem pl90_6 : placeT Tryz.prog 90 6 = some (7, 1) := by kernel_rfl
theorem sz112 : szT Tryz.prog 112 = some 13 := by kernel_rfl
theorem sz114 : szT Tryz.prog 114 = some 9 := by kernel_rfl
theorem sz118 : szT Tryz.prog 118 = some 3 := by kernel_rfl
theorem sz131 : szT Tryz.prog 131 = some 5 := by kernel_rfl
theorem sz158 : szT Tryz.prog 158 = some 2 := by kernel_rfl
theorem sz189 : szT Tryz.prog 189 = some 2 := by kernel_rfl
theorem sz22 : szT Tryz.prog 22 = some 1 := by kernel_rfl
theorem sz27 : szT Tryz.prog 27 = some 1 := by kernel_rfl
theorem sz29 : szT Tryz.prog 29 = some 4 := by kernel_rfl
theorem sz3 : szT Tryz.prog 3 = some 1 := by kernel_rfl
theorem sz30 : szT Tryz.prog 30 = some 1 := by kernel_rfl
theorem sz4 : szT Tryz.prog 4 = some 1 := by kernel_rfl
theorem sz49 : szT Tryz.prog 49 = some 1 := by kernel_rfl
theorem sz51 : szT Tryz.prog 51 = some 4 := by kernel_rfl
theorem sz58 : szT Tryz.prog 58 = some 9 := by kernel_rfl
theorem sz66 : szT Tryz.prog 66 = some 1 := by kernel_rfl
theorem sz83 : szT Tryz.prog 83 = some 3 := by kernel_rfl
theorem sz88 : szT Tryz.prog 88 = some 2 := by kernel_rfl
theorem sz9 : szT Tryz.prog 9 = some 1 := by kernel_rfl
theorem sz90 : szT Tryz.prog 90 = some 8 := by kernel_rfl
theorem un108 : (Tryz.prog).underlying 108 = some (.slice 88) := by kernel_rfl
theorem un121 : (Tryz.prog).underlying 121 = some (.slice 27) := by kernel_rfl
theorem un123 : (Tryz.prog).underlying 123 = some (.slice 30) := by kernel_rfl
theorem un124 : (Tryz.prog).underlying 124 = some (.array 2 29) := by kernel_rfl
theorem un153 : (Tryz.prog).underlying 153 = some (.slice 158) := by kernel_rfl
theorem un160 : (Tryz.prog).underlying 160 = some (.slice 112) := by kernel_rfl
theorem un165 : (Tryz.prog).underlying 165 = some (.slice 114) := by kernel_rfl
theorem un166 : (Tryz.prog).underlying 166 = some (.slice 118) := by kernel_rfl
theorem un172 : (Tryz.prog).underlying 172 = some (.slice 189) := by kernel_rfl
theorem un178 : (Tryz.prog).underlying 178 = some (.int .u64) := by kernel_rfl
theorem un202 : (Tryz.prog).underlying 202 = some (.int .u64) := by kernel_rfl
theorem un22 : (Tryz.prog).underlying 22 = some (.slice 3) := by kernel_rfl
theorem un27 : (Tryz.prog).underlying 27 = some (.slice 29) := by kernel_rfl
theorem un3 : (Tryz.prog).underlying 3 = some (.int .i64) := by kernel_rfl
theorem un4 : (Tryz.prog).underlying 4 = some .bool := by kernel_rfl
theorem un49 : (Tryz.prog).underlying 49 = some (.slice 131) := by kernel_rfl
theorem un5 : (Tryz.prog).underlying 5 = some (.int .u8) := by kernel_rfl
theorem un53 : (Tryz.prog).underlying 53 = some (.slice 58) := by kernel_rfl
theorem un66 : (Tryz.prog).underlying 66 = some (.slice 9) := by kernel_rfl
theorem un81 : (Tryz.prog).underlying 81 = some (.slice 83) := by kernel_rfl
theorem un85 : (Tryz.prog).underlying 85 = some (.slice 90) := by kernel_rfl
theorem un9 : (Tryz.prog).underlying 9 = some .string := by kernel_rfl
theorem z112 : zeroCells Tryz.prog 112 = some [.d (.str ⟨#[]⟩), .d (.str ⟨#[]⟩), .d (.int .i64 0), .d (.int .i64 0), .d (.int .i64 0), .d (.int .i64 0), .d (.int .i64 0), .nil, .d (.int .i64 0), .d (.int .i64 0), .d (.int .i64 0), .nil, .d (.bool false)] := by kernel_rfl
theorem z114 : zeroCells Tryz.prog 114 = some [.d (.str ⟨#[]⟩), .d (.str ⟨#[]⟩), .d (.int .i64 0), .nil, .d (.int .i64 0), .d (.int .i64 0), .d (.int .i64 0), .nil, .d (.str ⟨#[]⟩)] := by kernel_rfl
theorem z118 : zeroCells Tryz.prog 118 = some [.d (.str ⟨#[]⟩), .d (.int .i64 0), .d (.int .i64 0)] := by kernel_rfl
theorem z131 : zeroCells Tryz.prog 131 = some [.d (.str ⟨#[]⟩), .d (.int .i64 0), .d (.int .i64 0), .d (.int .i64 0), .d (.int .i64 0)] := by kernel_rfl
theorem z158 : zeroCells Tryz.prog 158 = some [.d (.int .i64 0), .d (.int .i64 0)] := by kernel_rfl
theorem z189 : zeroCells Tryz.prog 189 = some [.d (.int .i64 0), .d (.int .i64 0)] := by kernel_rfl
theorem z29 : zeroCells Tryz.prog 29 = some [.d (.int .i64 0), .d (.int .i64 0), .d (.int .i64 0), .d (.int .i64 0)] := by kernel_rfl
theorem z3 : zeroCells Tryz.prog 3 = some [.d (.int .i64 0)] := by kernel_rfl
theorem z51 : zeroCells Tryz.prog 51 = some [.d (.str ⟨#[]⟩), .d (.int .i64 0), .d (.int .i64 0), .nil] := by kernel_rfl
theorem z58 : zeroCells Tryz.prog 58 = some [.d (.str ⟨#[]⟩), .d (.int .i64 0), .d (.int .i64 0), .d (.int .i64 0), .d (.int .i64 0), .d (.int .i64 0), .d (.int .i64 0), .d (.int .i64 0), .d (.int .i64 0)] := by kernel_rfl
theorem z83 : zeroCells Tryz.prog 83 = some [.d (.str ⟨#[]⟩), .d (.int .i64 0), .d (.int .i64 0)] := by kernel_rfl
theorem z88 : zeroCells Tryz.prog 88 = some [.d (.int .i64 0), .d (.int .i64 0)] := by kernel_rfl
theorem z90 : zeroCells Tryz.prog 90 = some [.d (.str ⟨#[]⟩), .d (.str ⟨#[]⟩), .d (.int .i64 0), .d (.int .i64 0), .nil, .d (.int .i64 0), .d (.int .i64 0), .d (.int .i64 0)] := by kernel_rfl
end Go.Proofs.YtipcgokielgnhaaGreatDoor.Law

