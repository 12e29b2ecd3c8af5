/-
  DERIVED: THE SHELF's CONTRACTS AT THIS DUMP, IN PLAIN WORDS (tools/lay-plain.mjs out of 'TryzShelf.lean', which tools/lay-shelf.mjs wrote): THE SAME DECLARATIONS UNDER THE SAME NAMES: 'import', 'namespace', 'open', 'def', 'theorem' AND NOTHING ELSE: no command of the shelf's: FOR A HAND-IN. Each laying: the table of numbers ('.._ren') and one theorem, a field a fact of the dump's own or the kernel's comparison; each contract: ONE APPLICATION.
-/
import Derived.Shelf.Sort.Plain
import Derived.Shelf.Slices.In.SortNone
import Derived.Test.YtpojeclokolkaaaGreatDoorProg
namespace Go.Proofs
open Go.Shelf
def Tryz.lays189_ren : Go.Shelf.Ren := ⟨fun | 189 => 181 | 125 => 189 | 257 => 219 | 128 => 231 | 129 => 232 | 294 => 267 | 295 => 268 | 296 => 269 | 297 => 270 | 298 => 271 | 299 => 272 | 216 => 273 | 300 => 274 | 301 => 275 | 328 => 301 | 329 => 278 | 330 => 279 | 331 => 302 | 332 => 303 | 215 => 205 | 343 => 322 | n => n, fun | 28 => 22 | 3 => 3 | 46 => 268 | 0 => 0 | 51 => 303 | 53 => 305 | 4 => 4 | 183 => 297 | 182 => 296 | 131 => 221 | 5 => 5 | 9 => 9 | 218 => 333 | 222 => 337 | 228 => 363 | 229 => 364 | n => n, fun | n => n⟩
theorem Tryz.lays189 : Go.Proofs.Lays.n189 Tryz.prog Tryz.lays189_ren := {
  mixed := by kernel_rfl
  f125 := Tryz.func189.trans (congrArg some (by kernel_rfl))
  f128 := Tryz.func231.trans (congrArg some (by kernel_rfl))
  f129 := Tryz.func232.trans (congrArg some (by kernel_rfl))
  f189 := Tryz.func181.trans (congrArg some (by kernel_rfl))
  f215 := Tryz.func205.trans (congrArg some (by kernel_rfl))
  f216 := Tryz.func273.trans (congrArg some (by kernel_rfl))
  f257 := Tryz.func219.trans (congrArg some (by kernel_rfl))
  f294 := Tryz.func267.trans (congrArg some (by kernel_rfl))
  f295 := Tryz.func268.trans (congrArg some (by kernel_rfl))
  f296 := Tryz.func269.trans (congrArg some (by kernel_rfl))
  f297 := Tryz.func270.trans (congrArg some (by kernel_rfl))
  f298 := Tryz.func271.trans (congrArg some (by kernel_rfl))
  f299 := Tryz.func272.trans (congrArg some (by kernel_rfl))
  f300 := Tryz.func274.trans (congrArg some (by kernel_rfl))
  f301 := Tryz.func275.trans (congrArg some (by kernel_rfl))
  f328 := Tryz.func301.trans (congrArg some (by kernel_rfl))
  f329 := Tryz.func278.trans (congrArg some (by kernel_rfl))
  f330 := Tryz.func279.trans (congrArg some (by kernel_rfl))
  f331 := Tryz.func302.trans (congrArg some (by kernel_rfl))
  f332 := Tryz.func303.trans (congrArg some (by kernel_rfl))
  f343 := Tryz.func322.trans (congrArg some (by kernel_rfl))
  t0 := Tryz.underlying0
  a0 := Tryz.isAgg0
  z0 := Tryz.sizeOf0
  v0 := Tryz.zeroValue0
  t3 := Tryz.underlying3
  a3 := Tryz.isAgg3
  z3 := Tryz.sizeOf3
  v3 := Tryz.zeroValue3
  t4 := Tryz.underlying4
  a4 := Tryz.isAgg4
  z4 := Tryz.sizeOf4
  v4 := Tryz.zeroValue4
  t5 := Tryz.underlying5
  a5 := Tryz.isAgg5
  z5 := Tryz.sizeOf5
  v5 := Tryz.zeroValue5
  t9 := Tryz.underlying9
  a9 := Tryz.isAgg9
  z9 := Tryz.sizeOf9
  v9 := Tryz.zeroValue9
  t28 := Tryz.underlying22
  a28 := Tryz.isAgg22
  z28 := Tryz.sizeOf22
  v28 := Tryz.zeroValue22
  t46 := Tryz.underlying268
  a46 := Tryz.isAgg268
  z46 := Tryz.sizeOf268
  v46 := Tryz.zeroValue268
  t51 := Tryz.underlying303
  a51 := Tryz.isAgg303
  z51 := Tryz.sizeOf303
  v51 := Tryz.zeroValue303
  t53 := Tryz.underlying305
  a53 := Tryz.isAgg305
  z53 := Tryz.sizeOf305
  v53 := Tryz.zeroValue305
  t131 := Tryz.underlying221
  a131 := Tryz.isAgg221
  z131 := Tryz.sizeOf221
  v131 := Tryz.zeroValue221
  t182 := Tryz.underlying296
  a182 := Tryz.isAgg296
  z182 := Tryz.sizeOf296
  v182 := Tryz.zeroValue296
  t183 := Tryz.underlying297
  a183 := Tryz.isAgg297
  z183 := Tryz.sizeOf297
  v183 := Tryz.zeroValue297
  t218 := Tryz.underlying333
  a218 := Tryz.isAgg333
  z218 := Tryz.sizeOf333
  v218 := Tryz.zeroValue333
  t222 := Tryz.underlying337
  a222 := Tryz.isAgg337
  z222 := Tryz.sizeOf337
  v222 := Tryz.zeroValue337
  t228 := Tryz.underlying363
  a228 := Tryz.isAgg363
  z228 := Tryz.sizeOf363
  v228 := Tryz.zeroValue363
  t229 := Tryz.underlying364
  a229 := Tryz.isAgg364
  z229 := Tryz.sizeOf364
  v229 := Tryz.zeroValue364 }
open Go.Sort Go.RowKit in
theorem Tryz.slices_Sort_int (blk off cap : Nat) (zs : List Int) (w : World) (hH : Holds (Value.int .i64) w blk off zs.toArray) (hblk : blk < w.heap.size) (hsz : zs.length < 4611686018427387904) :
    Calls Tryz.prog 181 #[.slice (some ⟨blk, off, none⟩) zs.length cap] w fun e w' =>
      e = .returned (.tuple #[]) ∧ ∃ n os, w' = grow (putRow (Value.int .i64) (Sort.ahead w n) blk off (zs.mergeSort fun x y => decide (x ≤ y)).toArray) os := Any.slices_Sort_int Tryz.lays189 blk off cap zs w hH hblk hsz
open Go.RowKit Go.Sort in
theorem Tryz.slices_Sort_int_none (p : Option Addr) (cap : Nat) (w : World) :
    Calls Tryz.prog 181 #[.slice p 0 cap] w fun e w' => e = .returned (.tuple #[]) ∧ w' = w := Any.slices_Sort_int_none Tryz.lays189 p cap w
end Go.Proofs

