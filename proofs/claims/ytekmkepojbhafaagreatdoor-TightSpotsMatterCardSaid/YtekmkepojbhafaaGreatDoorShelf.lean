/-
  DERIVED: THE SHELF's CONTRACTS AT THIS DUMP, IN PLAIN WORDS (tools/lay-plain.mjs out of 'TryzShelf.lean', which tools/lay-shelf.mjs wrote): THE SAME DECLARATIONS UNDER THE SAME NAMES: 'import', 'namespace', 'open', 'def', 'theorem' AND NOTHING ELSE: no command of the shelf's: FOR A HAND-IN. Each laying: the table of numbers ('.._ren') and one theorem, a field a fact of the dump's own or the kernel's comparison; each contract: ONE APPLICATION.
-/
import Derived.Shelf.Sort.Plain
import Derived.Shelf.Slices.In.SortNone
import Derived.Test.YtekmkepojbhafaaGreatDoorProg
namespace Go.Proofs
open Go.Shelf
def Tryz.lays189_ren:Go.Shelf.Ren:=⟨fun | 189=>51 | 125=>70 | 257=>69 | 128=>91 | 129=>92 | 294=>82 | 295=>83 | 296=>84 | 297=>85 | 298=>86 | 299=>87 | 216=>88 | 300=>89 | 301=>90 | 328=>102 | 329=>103 | 330=>104 | 331=>105 | 332=>106 | 215=>107 | 343=>120 | n=>n,fun | 28=>22 | 3=>3 | 46=>132 | 0=>0 | 51=>154 | 53=>156 | 4=>4 | 183=>147 | 182=>146 | 131=>126 | 5=>5 | 9=>9 | 218=>159 | 222=>163 | 228=>171 | 229=>172 | n=>n,fun | n=>n⟩
theorem Tryz.lays189:Go.Proofs.Lays.n189 Tryz.prog Tryz.lays189_ren := {
 mixed:=by kernel_rfl
 f125:=Tryz.func70.trans (congrArg some (by kernel_rfl))
 f128:=Tryz.func91.trans (congrArg some (by kernel_rfl))
 f129:=Tryz.func92.trans (congrArg some (by kernel_rfl))
 f189:=Tryz.func51.trans (congrArg some (by kernel_rfl))
 f215:=Tryz.func107.trans (congrArg some (by kernel_rfl))
 f216:=Tryz.func88.trans (congrArg some (by kernel_rfl))
 f257:=Tryz.func69.trans (congrArg some (by kernel_rfl))
 f294:=Tryz.func82.trans (congrArg some (by kernel_rfl))
 f295:=Tryz.func83.trans (congrArg some (by kernel_rfl))
 f296:=Tryz.func84.trans (congrArg some (by kernel_rfl))
 f297:=Tryz.func85.trans (congrArg some (by kernel_rfl))
 f298:=Tryz.func86.trans (congrArg some (by kernel_rfl))
 f299:=Tryz.func87.trans (congrArg some (by kernel_rfl))
 f300:=Tryz.func89.trans (congrArg some (by kernel_rfl))
 f301:=Tryz.func90.trans (congrArg some (by kernel_rfl))
 f328:=Tryz.func102.trans (congrArg some (by kernel_rfl))
 f329:=Tryz.func103.trans (congrArg some (by kernel_rfl))
 f330:=Tryz.func104.trans (congrArg some (by kernel_rfl))
 f331:=Tryz.func105.trans (congrArg some (by kernel_rfl))
 f332:=Tryz.func106.trans (congrArg some (by kernel_rfl))
 f343:=Tryz.func120.trans (congrArg some (by kernel_rfl))
 t0:=Tryz.underlying0
 a0:=Tryz.isAgg0
 z0:=Tryz.sizeOf0
 v0:=Tryz.zeroValue0
 t3:=Tryz.underlying3
 a3:=Tryz.isAgg3
 z3:=Tryz.sizeOf3
 v3:=Tryz.zeroValue3
 t4:=Tryz.underlying4
 a4:=Tryz.isAgg4
 z4:=Tryz.sizeOf4
 v4:=Tryz.zeroValue4
 t5:=Tryz.underlying5
 a5:=Tryz.isAgg5
 z5:=Tryz.sizeOf5
 v5:=Tryz.zeroValue5
 t9:=Tryz.underlying9
 a9:=Tryz.isAgg9
 z9:=Tryz.sizeOf9
 v9:=Tryz.zeroValue9
 t28:=Tryz.underlying22
 a28:=Tryz.isAgg22
 z28:=Tryz.sizeOf22
 v28:=Tryz.zeroValue22
 t46:=Tryz.underlying132
 a46:=Tryz.isAgg132
 z46:=Tryz.sizeOf132
 v46:=Tryz.zeroValue132
 t51:=Tryz.underlying154
 a51:=Tryz.isAgg154
 z51:=Tryz.sizeOf154
 v51:=Tryz.zeroValue154
 t53:=Tryz.underlying156
 a53:=Tryz.isAgg156
 z53:=Tryz.sizeOf156
 v53:=Tryz.zeroValue156
 t131:=Tryz.underlying126
 a131:=Tryz.isAgg126
 z131:=Tryz.sizeOf126
 v131:=Tryz.zeroValue126
 t182:=Tryz.underlying146
 a182:=Tryz.isAgg146
 z182:=Tryz.sizeOf146
 v182:=Tryz.zeroValue146
 t183:=Tryz.underlying147
 a183:=Tryz.isAgg147
 z183:=Tryz.sizeOf147
 v183:=Tryz.zeroValue147
 t218:=Tryz.underlying159
 a218:=Tryz.isAgg159
 z218:=Tryz.sizeOf159
 v218:=Tryz.zeroValue159
 t222:=Tryz.underlying163
 a222:=Tryz.isAgg163
 z222:=Tryz.sizeOf163
 v222:=Tryz.zeroValue163
 t228:=Tryz.underlying171
 a228:=Tryz.isAgg171
 z228:=Tryz.sizeOf171
 v228:=Tryz.zeroValue171
 t229:=Tryz.underlying172
 a229:=Tryz.isAgg172
 z229:=Tryz.sizeOf172
 v229:=Tryz.zeroValue172 }
open Go.Sort Go.RowKit in
theorem Tryz.slices_Sort_int (blk off cap:Nat) (zs:List Int) (w:World) (hH:Holds (Value.int .i64) w blk off zs.toArray) (hblk:blk<w.heap.size) (hsz:zs.length<4611686018427387904) :
  Calls Tryz.prog 51 #[.slice (some ⟨blk,off,none⟩) zs.length cap] w λe w' =>
   e = .returned (.tuple #[])/\∃n os,w'=grow (putRow (Value.int .i64) (Sort.ahead w n) blk off (zs.mergeSort λx y=>decide (x<=y)).toArray) os:=Any.slices_Sort_int Tryz.lays189 blk off cap zs w hH hblk hsz
open Go.RowKit Go.Sort in
theorem Tryz.slices_Sort_int_none (p:Option Addr) (cap:Nat) (w:World) :
  Calls Tryz.prog 51 #[.slice p 0 cap] w λe w'=>e = .returned (.tuple #[])/\w'=w:=Any.slices_Sort_int_none Tryz.lays189 p cap w
end Go.Proofs

