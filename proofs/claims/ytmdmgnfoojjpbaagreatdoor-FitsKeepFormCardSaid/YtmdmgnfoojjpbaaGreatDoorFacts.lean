/-
  Closed facts on the types and functions of the program.
-/
import Derived.Test.YtmdmgnfoojjpbaaGreatDoorProg
import Derived.Test.YtmdmgnfoojjpbaaGreatDoorEng4
open Go Go.Eng Go.Proofs
namespace Go.Proofs.YtmdmgnfoojjpbaaGreatDoor.Law
set_option maxRecDepth 100000
set_option linter.unusedVariables false
set_option maxHeartbeats 1000000
theorem ag120 : isAggT Tryz.prog 120 = true := by kernel_rfl
theorem ag22 : isAggT Tryz.prog 22 = false := by kernel_rfl
theorem ag28 : isAggT Tryz.prog 28 = true := by kernel_rfl
theorem ag29 : isAggT Tryz.prog 29 = false := by kernel_rfl
theorem ag3 : isAggT Tryz.prog 3 = false := by kernel_rfl
theorem ag4 : isAggT Tryz.prog 4 = false := by kernel_rfl
theorem ag43 : isAggT Tryz.prog 43 = false := by kernel_rfl
theorem ag47 : isAggT Tryz.prog 47 = false := by kernel_rfl
theorem ag49 : isAggT Tryz.prog 49 = true := by kernel_rfl
theorem ag51 : isAggT Tryz.prog 51 = true := by kernel_rfl
theorem ag54 : isAggT Tryz.prog 54 = true := by kernel_rfl
theorem ag57 : isAggT Tryz.prog 57 = true := by kernel_rfl
theorem ag60 : isAggT Tryz.prog 60 = true := by kernel_rfl
theorem ag64 : isAggT Tryz.prog 64 = true := by kernel_rfl
theorem ag9 : isAggT Tryz.prog 9 = false := by kernel_rfl
theorem ag93 : isAggT Tryz.prog 93 = true := by kernel_rfl
theorem by120 : bytesT Tryz.prog 120 = 16 := by kernel_rfl
theorem by28 : bytesT Tryz.prog 28 = 32 := by kernel_rfl
theorem by3 : bytesT Tryz.prog 3 = 8 := by kernel_rfl
theorem by51 : bytesT Tryz.prog 51 = 16 := by kernel_rfl
theorem by93 : bytesT Tryz.prog 93 = 16 := by kernel_rfl
theorem el102 : elemT Tryz.prog 102 = some 120 := by kernel_rfl
theorem el22 : elemT Tryz.prog 22 = some 3 := by kernel_rfl
theorem el43 : elemT Tryz.prog 43 = some 28 := by kernel_rfl
theorem el44 : elemT Tryz.prog 44 = some 51 := by kernel_rfl
theorem el88 : elemT Tryz.prog 88 = some 93 := by kernel_rfl
theorem es102 : (elemT Tryz.prog 102).bind (szT Tryz.prog) = some 2 := by kernel_rfl
theorem es108 : (elemT Tryz.prog 108).bind (szT Tryz.prog) = some 1 := by kernel_rfl
theorem es22 : (elemT Tryz.prog 22).bind (szT Tryz.prog) = some 1 := by kernel_rfl
theorem es43 : (elemT Tryz.prog 43).bind (szT Tryz.prog) = some 4 := by kernel_rfl
theorem es44 : (elemT Tryz.prog 44).bind (szT Tryz.prog) = some 2 := by kernel_rfl
theorem es47 : (elemT Tryz.prog 47).bind (szT Tryz.prog) = some 1 := by kernel_rfl
theorem es58 : (elemT Tryz.prog 58).bind (szT Tryz.prog) = some 3 := by kernel_rfl
theorem es72 : (elemT Tryz.prog 72).bind (szT Tryz.prog) = some 13 := by kernel_rfl
theorem es77 : (elemT Tryz.prog 77).bind (szT Tryz.prog) = some 8 := by kernel_rfl
theorem es81 : (elemT Tryz.prog 81).bind (szT Tryz.prog) = some 9 := by kernel_rfl
theorem es82 : (elemT Tryz.prog 82).bind (szT Tryz.prog) = some 3 := by kernel_rfl
theorem es84 : (elemT Tryz.prog 84).bind (szT Tryz.prog) = some 1 := by kernel_rfl
theorem es88 : (elemT Tryz.prog 88).bind (szT Tryz.prog) = some 2 := by kernel_rfl
theorem ez102 : ((elemT Tryz.prog 102).bind (zeroCells Tryz.prog)).isSome = true := by kernel_rfl
theorem ez108 : ((elemT Tryz.prog 108).bind (zeroCells Tryz.prog)).isSome = true := by kernel_rfl
theorem ez22 : ((elemT Tryz.prog 22).bind (zeroCells Tryz.prog)).isSome = true := by kernel_rfl
theorem ez43 : ((elemT Tryz.prog 43).bind (zeroCells Tryz.prog)).isSome = true := by kernel_rfl
theorem ez44 : ((elemT Tryz.prog 44).bind (zeroCells Tryz.prog)).isSome = true := by kernel_rfl
theorem ez58 : ((elemT Tryz.prog 58).bind (zeroCells Tryz.prog)).isSome = true := by kernel_rfl
theorem ez72 : ((elemT Tryz.prog 72).bind (zeroCells Tryz.prog)).isSome = true := by kernel_rfl
theorem ez77 : ((elemT Tryz.prog 77).bind (zeroCells Tryz.prog)).isSome = true := by kernel_rfl
theorem ez81 : ((elemT Tryz.prog 81).bind (zeroCells Tryz.prog)).isSome = true := by kernel_rfl
theorem ez82 : ((elemT Tryz.prog 82).bind (zeroCells Tryz.prog)).isSome = true := by kernel_rfl
theorem ez84 : ((elemT Tryz.prog 84).bind (zeroCells Tryz.prog)).isSome = true := by kernel_rfl
theorem ez88 : ((elemT Tryz.prog 88).bind (zeroCells Tryz.prog)).isSome = true := by kernel_rfl
theorem hb10 : hasBody Tryz.prog 10 = true := by kernel_rfl
theorem hb101 : hasBody Tryz.prog 101 = true := by kernel_rfl
theorem hb102 : hasBody Tryz.prog 102 = true := by kernel_rfl
theorem hb103 : hasBody Tryz.prog 103 = true := by kernel_rfl
theorem hb104 : hasBody Tryz.prog 104 = true := by kernel_rfl
theorem hb11 : hasBody Tryz.prog 11 = true := by kernel_rfl
theorem hb110 : hasBody Tryz.prog 110 = true := by kernel_rfl
theorem hb111 : hasBody Tryz.prog 111 = true := by kernel_rfl
theorem hb112 : hasBody Tryz.prog 112 = true := by kernel_rfl
theorem hb118 : hasBody Tryz.prog 118 = true := by kernel_rfl
theorem hb12 : hasBody Tryz.prog 12 = true := by kernel_rfl
theorem hb124 : hasBody Tryz.prog 124 = true := by kernel_rfl
theorem hb128 : hasBody Tryz.prog 128 = true := by kernel_rfl
theorem hb14 : hasBody Tryz.prog 14 = true := by kernel_rfl
theorem hb15 : hasBody Tryz.prog 15 = true := by kernel_rfl
theorem hb16 : hasBody Tryz.prog 16 = true := by kernel_rfl
theorem hb17 : hasBody Tryz.prog 17 = true := by kernel_rfl
theorem hb18 : hasBody Tryz.prog 18 = true := by kernel_rfl
theorem hb19 : hasBody Tryz.prog 19 = true := by kernel_rfl
theorem hb20 : hasBody Tryz.prog 20 = true := by kernel_rfl
theorem hb21 : hasBody Tryz.prog 21 = true := by kernel_rfl
theorem hb22 : hasBody Tryz.prog 22 = true := by kernel_rfl
theorem hb23 : hasBody Tryz.prog 23 = true := by kernel_rfl
theorem hb24 : hasBody Tryz.prog 24 = true := by kernel_rfl
theorem hb25 : hasBody Tryz.prog 25 = true := by kernel_rfl
theorem hb26 : hasBody Tryz.prog 26 = true := by kernel_rfl
theorem hb27 : hasBody Tryz.prog 27 = true := by kernel_rfl
theorem hb28 : hasBody Tryz.prog 28 = true := by kernel_rfl
theorem hb29 : hasBody Tryz.prog 29 = true := by kernel_rfl
theorem hb30 : hasBody Tryz.prog 30 = true := by kernel_rfl
theorem hb31 : hasBody Tryz.prog 31 = true := by kernel_rfl
theorem hb32 : hasBody Tryz.prog 32 = true := by kernel_rfl
theorem hb33 : hasBody Tryz.prog 33 = true := by kernel_rfl
theorem hb34 : hasBody Tryz.prog 34 = true := by kernel_rfl
theorem hb35 : hasBody Tryz.prog 35 = true := by kernel_rfl
theorem hb36 : hasBody Tryz.prog 36 = true := by kernel_rfl
theorem hb37 : hasBody Tryz.prog 37 = true := by kernel_rfl
theorem hb38 : hasBody Tryz.prog 38 = true := by kernel_rfl
theorem hb39 : hasBody Tryz.prog 39 = true := by kernel_rfl
theorem hb40 : hasBody Tryz.prog 40 = true := by kernel_rfl
theorem hb41 : hasBody Tryz.prog 41 = true := by kernel_rfl
theorem hb42 : hasBody Tryz.prog 42 = true := by kernel_rfl
theorem hb43 : hasBody Tryz.prog 43 = true := by kernel_rfl
theorem hb44 : hasBody Tryz.prog 44 = true := by kernel_rfl
theorem hb45 : hasBody Tryz.prog 45 = true := by kernel_rfl
theorem hb46 : hasBody Tryz.prog 46 = true := by kernel_rfl
theorem hb47 : hasBody Tryz.prog 47 = true := by kernel_rfl
theorem hb48 : hasBody Tryz.prog 48 = true := by kernel_rfl
theorem hb49 : hasBody Tryz.prog 49 = true := by kernel_rfl
theorem hb5 : hasBody Tryz.prog 5 = true := by kernel_rfl
theorem hb50 : hasBody Tryz.prog 50 = true := by kernel_rfl
theorem hb51 : hasBody Tryz.prog 51 = true := by kernel_rfl
theorem hb52 : hasBody Tryz.prog 52 = true := by kernel_rfl
theorem hb53 : hasBody Tryz.prog 53 = true := by kernel_rfl
theorem hb54 : hasBody Tryz.prog 54 = true := by kernel_rfl
theorem hb55 : hasBody Tryz.prog 55 = true := by kernel_rfl
theorem hb57 : hasBody Tryz.prog 57 = true := by kernel_rfl
theorem hb58 : hasBody Tryz.prog 58 = true := by kernel_rfl
theorem hb59 : hasBody Tryz.prog 59 = true := by kernel_rfl
theorem hb60 : hasBody Tryz.prog 60 = true := by kernel_rfl
theorem hb61 : hasBody Tryz.prog 61 = true := by kernel_rfl
theorem hb62 : hasBody Tryz.prog 62 = true := by kernel_rfl
theorem hb63 : hasBody Tryz.prog 63 = true := by kernel_rfl
theorem hb64 : hasBody Tryz.prog 64 = true := by kernel_rfl
theorem hb65 : hasBody Tryz.prog 65 = true := by kernel_rfl
theorem hb66 : hasBody Tryz.prog 66 = true := by kernel_rfl
theorem hb67 : hasBody Tryz.prog 67 = true := by kernel_rfl
theorem hb7 : hasBody Tryz.prog 7 = true := by kernel_rfl
theorem hb74 : hasBody Tryz.prog 74 = true := by kernel_rfl
theorem hb78 : hasBody Tryz.prog 78 = true := by kernel_rfl
theorem hb79 : hasBody Tryz.prog 79 = true := by kernel_rfl
theorem hb8 : hasBody Tryz.prog 8 = true := by kernel_rfl
theorem hb80 : hasBody Tryz.prog 80 = true := by kernel_rfl
theorem hb81 : hasBody Tryz.prog 81 = true := by kernel_rfl
theorem hb82 : hasBody Tryz.prog 82 = true := by kernel_rfl
theorem hb83 : hasBody Tryz.prog 83 = true := by kernel_rfl
theorem hb84 : hasBody Tryz.prog 84 = true := by kernel_rfl
theorem hb85 : hasBody Tryz.prog 85 = true := by kernel_rfl
theorem hb86 : hasBody Tryz.prog 86 = true := by kernel_rfl
theorem hb9 : hasBody Tryz.prog 9 = true := by kernel_rfl
theorem hb92 : hasBody Tryz.prog 92 = true := by kernel_rfl
theorem hb93 : hasBody Tryz.prog 93 = true := by kernel_rfl
theorem mt123 : mapT Tryz.prog 123 = some (9, 4) := by kernel_rfl
theorem nb109 : hasBody Tryz.prog 109 = false := by kernel_rfl
theorem nb134 : hasBody Tryz.prog 134 = false := by kernel_rfl
theorem pl120_0 : placeT Tryz.prog 120 0 = some (0, 1) := by kernel_rfl
theorem pl120_1 : placeT Tryz.prog 120 1 = some (1, 1) := by kernel_rfl
theorem pl25_0 : placeT Tryz.prog 25 0 = some (0, 1) := by kernel_rfl
theorem pl25_1 : placeT Tryz.prog 25 1 = some (1, 1) := by kernel_rfl
theorem pl28_0 : placeT Tryz.prog 28 0 = some (0, 1) := by kernel_rfl
theorem pl28_1 : placeT Tryz.prog 28 1 = some (1, 1) := by kernel_rfl
theorem pl28_2 : placeT Tryz.prog 28 2 = some (2, 1) := by kernel_rfl
theorem pl28_3 : placeT Tryz.prog 28 3 = some (3, 1) := by kernel_rfl
theorem pl49_0 : placeT Tryz.prog 49 0 = some (0, 1) := by kernel_rfl
theorem pl49_1 : placeT Tryz.prog 49 1 = some (1, 1) := by kernel_rfl
theorem pl49_10 : placeT Tryz.prog 49 10 = some (10, 1) := by kernel_rfl
theorem pl49_11 : placeT Tryz.prog 49 11 = some (11, 1) := by kernel_rfl
theorem pl49_12 : placeT Tryz.prog 49 12 = some (12, 1) := by kernel_rfl
theorem pl49_2 : placeT Tryz.prog 49 2 = some (2, 1) := by kernel_rfl
theorem pl49_3 : placeT Tryz.prog 49 3 = some (3, 1) := by kernel_rfl
theorem pl49_4 : placeT Tryz.prog 49 4 = some (4, 1) := by kernel_rfl
theorem pl49_5 : placeT Tryz.prog 49 5 = some (5, 1) := by kernel_rfl
theorem pl49_6 : placeT Tryz.prog 49 6 = some (6, 1) := by kernel_rfl
theorem pl49_7 : placeT Tryz.prog 49 7 = some (7, 1) := by kernel_rfl
theorem pl49_8 : placeT Tryz.prog 49 8 = some (8, 1) := by kernel_rfl
theorem pl49_9 : placeT Tryz.prog 49 9 = some (9, 1) := by kernel_rfl
theorem pl51_0 : placeT Tryz.prog 51 0 = some (0, 1) := by kernel_rfl
theorem pl51_1 : placeT Tryz.prog 51 1 = some (1, 1) := by kernel_rfl
theorem pl54_0 : placeT Tryz.prog 54 0 = some (0, 1) := by kernel_rfl
theorem pl54_1 : placeT Tryz.prog 54 1 = some (1, 1) := by kernel_rfl
theorem pl54_2 : placeT Tryz.prog 54 2 = some (2, 2) := by kernel_rfl
theorem pl54_3 : placeT Tryz.prog 54 3 = some (4, 1) := by kernel_rfl
theorem pl54_4 : placeT Tryz.prog 54 4 = some (5, 1) := by kernel_rfl
theorem pl54_5 : placeT Tryz.prog 54 5 = some (6, 1) := by kernel_rfl
theorem pl54_6 : placeT Tryz.prog 54 6 = some (7, 1) := by kernel_rfl
theorem pl57_0 : placeT Tryz.prog 57 0 = some (0, 1) := by kernel_rfl
theorem pl57_1 : placeT Tryz.prog 57 1 = some (1, 1) := by kernel_rfl
theorem pl57_2 : placeT Tryz.prog 57 2 = some (2, 1) := by kernel_rfl
theorem pl60_0 : placeT Tryz.prog 60 0 = some (0, 1) := by kernel_rfl
theorem pl60_1 : placeT Tryz.prog 60 1 = some (1, 1) := by kernel_rfl
theorem pl60_2 : placeT Tryz.prog 60 2 = some (2, 1) := by kernel_rfl
theorem pl60_3 : placeT Tryz.prog 60 3 = some (3, 1) := by kernel_rfl
theorem pl60_4 : placeT Tryz.prog 60 4 = some (4, 1) := by kernel_rfl
theorem pl60_5 : placeT Tryz.prog 60 5 = some (5, 1) := by kernel_rfl
theorem pl60_6 : placeT Tryz.prog 60 6 = some (6, 1) := by kernel_rfl
theorem pl60_7 : placeT Tryz.prog 60 7 = some (7, 1) := by kernel_rfl
theorem pl60_8 : placeT Tryz.prog 60 8 = some (8, 1) := by kernel_rfl
theorem pl64_0 : placeT Tryz.prog 64 0 = some (0, 1) := by kernel_rfl
theorem pl64_1 : placeT Tryz.prog 64 1 = some (1, 1) := by kernel_rfl
theorem pl64_2 : placeT Tryz.prog 64 2 = some (2, 1) := by kernel_rfl
theorem pl93_0 : placeT Tryz.prog 93 0 = some (0, 1) := by kernel_rfl
theorem pl93_1 : placeT Tryz.prog 93 1 = some (1, 1) := by kernel_rfl
theorem sz120 : szT Tryz.prog 120 = some 2 := by kernel_rfl
theorem sz22 : szT Tryz.prog 22 = some 1 := by kernel_rfl
theorem sz28 : szT Tryz.prog 28 = some 4 := by kernel_rfl
theorem sz29 : szT Tryz.prog 29 = some 1 := by kernel_rfl
theorem sz3 : szT Tryz.prog 3 = some 1 := by kernel_rfl
theorem sz4 : szT Tryz.prog 4 = some 1 := by kernel_rfl
theorem sz43 : szT Tryz.prog 43 = some 1 := by kernel_rfl
theorem sz47 : szT Tryz.prog 47 = some 1 := by kernel_rfl
theorem sz49 : szT Tryz.prog 49 = some 13 := by kernel_rfl
theorem sz51 : szT Tryz.prog 51 = some 2 := by kernel_rfl
theorem sz54 : szT Tryz.prog 54 = some 8 := by kernel_rfl
theorem sz57 : szT Tryz.prog 57 = some 3 := by kernel_rfl
theorem sz60 : szT Tryz.prog 60 = some 9 := by kernel_rfl
theorem sz64 : szT Tryz.prog 64 = some 3 := by kernel_rfl
theorem sz9 : szT Tryz.prog 9 = some 1 := by kernel_rfl
theorem sz93 : szT Tryz.prog 93 = some 2 := by kernel_rfl
theorem un102 : (Tryz.prog).underlying 102 = some (.slice 120) := by kernel_rfl
theorem un108 : (Tryz.prog).underlying 108 = some (.slice 43) := by kernel_rfl
theorem un112 : (Tryz.prog).underlying 112 = some (.int .u64) := by kernel_rfl
theorem un136 : (Tryz.prog).underlying 136 = some (.int .u64) := by kernel_rfl
theorem un22 : (Tryz.prog).underlying 22 = some (.slice 3) := by kernel_rfl
theorem un3 : (Tryz.prog).underlying 3 = some (.int .i64) := by kernel_rfl
theorem un4 : (Tryz.prog).underlying 4 = some .bool := by kernel_rfl
theorem un43 : (Tryz.prog).underlying 43 = some (.slice 28) := by kernel_rfl
theorem un44 : (Tryz.prog).underlying 44 = some (.slice 51) := by kernel_rfl
theorem un47 : (Tryz.prog).underlying 47 = some (.slice 9) := by kernel_rfl
theorem un5 : (Tryz.prog).underlying 5 = some (.int .u8) := by kernel_rfl
theorem un58 : (Tryz.prog).underlying 58 = some (.slice 57) := by kernel_rfl
theorem un72 : (Tryz.prog).underlying 72 = some (.slice 49) := by kernel_rfl
theorem un77 : (Tryz.prog).underlying 77 = some (.slice 54) := by kernel_rfl
theorem un81 : (Tryz.prog).underlying 81 = some (.slice 60) := by kernel_rfl
theorem un82 : (Tryz.prog).underlying 82 = some (.slice 64) := by kernel_rfl
theorem un84 : (Tryz.prog).underlying 84 = some (.slice 29) := by kernel_rfl
theorem un88 : (Tryz.prog).underlying 88 = some (.slice 93) := by kernel_rfl
theorem un9 : (Tryz.prog).underlying 9 = some .string := by kernel_rfl
theorem z120 : zeroCells Tryz.prog 120 = some [.d (.int .i64 0), .d (.int .i64 0)] := by kernel_rfl
theorem z28 : zeroCells Tryz.prog 28 = some [.d (.int .i64 0), .d (.int .i64 0), .d (.int .i64 0), .d (.int .i64 0)] := by kernel_rfl
theorem z3 : zeroCells Tryz.prog 3 = some [.d (.int .i64 0)] := by kernel_rfl
theorem z49 : zeroCells Tryz.prog 49 = some [.d (.str ⟨#[]⟩), .d (.str ⟨#[]⟩), .d (.int .i64 0), .d (.int .i64 0), .d (.int .i64 0), .d (.int .i64 0), .d (.int .i64 0), .nil, .d (.int .i64 0), .d (.int .i64 0), .d (.int .i64 0), .nil, .d (.bool false)] := by kernel_rfl
theorem z51 : zeroCells Tryz.prog 51 = some [.d (.int .i64 0), .d (.int .i64 0)] := by kernel_rfl
theorem z54 : zeroCells Tryz.prog 54 = some [.d (.str ⟨#[]⟩), .d (.str ⟨#[]⟩), .d (.int .i64 0), .d (.int .i64 0), .nil, .d (.int .i64 0), .d (.int .i64 0), .d (.int .i64 0)] := by kernel_rfl
theorem z57 : zeroCells Tryz.prog 57 = some [.d (.str ⟨#[]⟩), .d (.int .i64 0), .d (.int .i64 0)] := by kernel_rfl
theorem z60 : zeroCells Tryz.prog 60 = some [.d (.str ⟨#[]⟩), .d (.str ⟨#[]⟩), .d (.int .i64 0), .nil, .d (.int .i64 0), .d (.int .i64 0), .d (.int .i64 0), .nil, .d (.str ⟨#[]⟩)] := by kernel_rfl
theorem z64 : zeroCells Tryz.prog 64 = some [.d (.str ⟨#[]⟩), .d (.int .i64 0), .d (.int .i64 0)] := by kernel_rfl
theorem z93 : zeroCells Tryz.prog 93 = some [.d (.int .i64 0), .d (.int .i64 0)] := by kernel_rfl
end Go.Proofs.YtmdmgnfoojjpbaaGreatDoor.Law

