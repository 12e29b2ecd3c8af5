/-
  DERIVED: THE SHELF's CONTRACTS AT THIS DUMP, IN PLAIN WORDS (tools/lay-plain.mjs out of 'TryzShelf.lean', which tools/lay-shelf.mjs wrote): THE SAME DECLARATIONS UNDER THE SAME NAMES: 'import', 'namespace', 'open', 'def', 'theorem' AND NOTHING ELSE: no command of the shelf's: FOR A HAND-IN. Each laying: the table of numbers ('.._ren') and one theorem, a field a fact of the dump's own or the kernel's comparison; each contract: ONE APPLICATION.
-/
import Derived.Shelf.Sort.Plain
import Derived.Shelf.Slices.In.SortNone
import Derived.Test.YtekmkepojbhafacGreatDoorProg
namespace Go.Proofs
open Go.Shelf
def Tryz.lays189_ren:Go.Shelf.Ren:=⟨fun | 189=>63 | 125=>87 | 257=>86 | 128=>107 | 129=>108 | 294=>98 | 295=>99 | 296=>100 | 297=>101 | 298=>102 | 299=>103 | 216=>104 | 300=>105 | 301=>106 | 328=>117 | 329=>118 | 330=>119 | 331=>120 | 332=>121 | 215=>122 | 343=>134 | n=>n,fun | 28=>22 | 3=>3 | 46=>120 | 0=>0 | 51=>172 | 53=>174 | 4=>4 | 183=>165 | 182=>164 | 131=>94 | 5=>5 | 9=>9 | 218=>176 | 222=>180 | 228=>188 | 229=>189 | n=>n,fun | n=>n⟩
theorem Tryz.lays189:Go.Proofs.Lays.n189 Tryz.prog Tryz.lays189_ren := {
 mixed:=by kernel_rfl
 f125:=Tryz.func87.trans (congrArg some (by kernel_rfl))
 f128:=Tryz.func107.trans (congrArg some (by kernel_rfl))
 f129:=Tryz.func108.trans (congrArg some (by kernel_rfl))
 f189:=Tryz.func63.trans (congrArg some (by kernel_rfl))
 f215:=Tryz.func122.trans (congrArg some (by kernel_rfl))
 f216:=Tryz.func104.trans (congrArg some (by kernel_rfl))
 f257:=Tryz.func86.trans (congrArg some (by kernel_rfl))
 f294:=Tryz.func98.trans (congrArg some (by kernel_rfl))
 f295:=Tryz.func99.trans (congrArg some (by kernel_rfl))
 f296:=Tryz.func100.trans (congrArg some (by kernel_rfl))
 f297:=Tryz.func101.trans (congrArg some (by kernel_rfl))
 f298:=Tryz.func102.trans (congrArg some (by kernel_rfl))
 f299:=Tryz.func103.trans (congrArg some (by kernel_rfl))
 f300:=Tryz.func105.trans (congrArg some (by kernel_rfl))
 f301:=Tryz.func106.trans (congrArg some (by kernel_rfl))
 f328:=Tryz.func117.trans (congrArg some (by kernel_rfl))
 f329:=Tryz.func118.trans (congrArg some (by kernel_rfl))
 f330:=Tryz.func119.trans (congrArg some (by kernel_rfl))
 f331:=Tryz.func120.trans (congrArg some (by kernel_rfl))
 f332:=Tryz.func121.trans (congrArg some (by kernel_rfl))
 f343:=Tryz.func134.trans (congrArg some (by kernel_rfl))
 t0:=Tryz.underlying0
 a0:=Tryz.isAgg0
 z0:=Tryz.sizeOf0
 v0:=Tryz.zeroValue0
 t3:=Tryz.underlying3
 a3:=Tryz.isAgg3
 z3:=Tryz.sizeOf3
 v3:=Tryz.zeroValue3
 t4:=Tryz.underlying4
 a4:=Tryz.isAgg4
 z4:=Tryz.sizeOf4
 v4:=Tryz.zeroValue4
 t5:=Tryz.underlying5
 a5:=Tryz.isAgg5
 z5:=Tryz.sizeOf5
 v5:=Tryz.zeroValue5
 t9:=Tryz.underlying9
 a9:=Tryz.isAgg9
 z9:=Tryz.sizeOf9
 v9:=Tryz.zeroValue9
 t28:=Tryz.underlying22
 a28:=Tryz.isAgg22
 z28:=Tryz.sizeOf22
 v28:=Tryz.zeroValue22
 t46:=Tryz.underlying120
 a46:=Tryz.isAgg120
 z46:=Tryz.sizeOf120
 v46:=Tryz.zeroValue120
 t51:=Tryz.underlying172
 a51:=Tryz.isAgg172
 z51:=Tryz.sizeOf172
 v51:=Tryz.zeroValue172
 t53:=Tryz.underlying174
 a53:=Tryz.isAgg174
 z53:=Tryz.sizeOf174
 v53:=Tryz.zeroValue174
 t131:=Tryz.underlying94
 a131:=Tryz.isAgg94
 z131:=Tryz.sizeOf94
 v131:=Tryz.zeroValue94
 t182:=Tryz.underlying164
 a182:=Tryz.isAgg164
 z182:=Tryz.sizeOf164
 v182:=Tryz.zeroValue164
 t183:=Tryz.underlying165
 a183:=Tryz.isAgg165
 z183:=Tryz.sizeOf165
 v183:=Tryz.zeroValue165
 t218:=Tryz.underlying176
 a218:=Tryz.isAgg176
 z218:=Tryz.sizeOf176
 v218:=Tryz.zeroValue176
 t222:=Tryz.underlying180
 a222:=Tryz.isAgg180
 z222:=Tryz.sizeOf180
 v222:=Tryz.zeroValue180
 t228:=Tryz.underlying188
 a228:=Tryz.isAgg188
 z228:=Tryz.sizeOf188
 v228:=Tryz.zeroValue188
 t229:=Tryz.underlying189
 a229:=Tryz.isAgg189
 z229:=Tryz.sizeOf189
 v229:=Tryz.zeroValue189 }
open Go.Sort Go.RowKit in
theorem Tryz.slices_Sort_int (blk off cap:Nat) (zs:List Int) (w:World) (hH:Holds (Value.int .i64) w blk off zs.toArray) (hblk:blk<w.heap.size) (hsz:zs.length<4611686018427387904) :
  Calls Tryz.prog 63 #[.slice (some ⟨blk,off,none⟩) zs.length cap] w λe w' =>
   e = .returned (.tuple #[])/\∃n os,w'=grow (putRow (Value.int .i64) (Sort.ahead w n) blk off (zs.mergeSort λx y=>decide (x<=y)).toArray) os:=Any.slices_Sort_int Tryz.lays189 blk off cap zs w hH hblk hsz
open Go.RowKit Go.Sort in
theorem Tryz.slices_Sort_int_none (p:Option Addr) (cap:Nat) (w:World) :
  Calls Tryz.prog 63 #[.slice p 0 cap] w λe w'=>e = .returned (.tuple #[])/\w'=w:=Any.slices_Sort_int_none Tryz.lays189 p cap w
end Go.Proofs

