/-
  The library's sort and Clone of numbers as they stand in this program (laid by the shelf's command, written in plain words by its tool).
-/
import Derived.Test.YtdeiamnhnfmilaaGreatChecked
import Derived.Ground.NamesProg
import Derived.Ground.Names2Prog
import Derived.Shelf.Sort.Plain
import Derived.Shelf.Slices.In.SortNone
import Derived.Shelf.Slices.Clone
namespace Go.Proofs
open Go.Shelf
def Tryz.lays189_ren:Go.Shelf.Ren:=⟨fun | 189=>228 | 125=>256 | 257=>255 | 128=>271 | 129=>272 | 294=>262 | 295=>263 | 296=>264 | 297=>265 | 298=>266 | 299=>267 | 216=>268 | 300=>269 | 301=>270 | 328=>275 | 329=>276 | 330=>277 | 331=>278 | 332=>279 | 215=>280 | 343=>282 | n=>n,fun | 28=>27 | 3=>3 | 46=>241 | 0=>0 | 51=>267 | 53=>240 | 4=>4 | 183=>260 | 182=>259 | 131=>111 | 5=>5 | 9=>9 | 218=>269 | 222=>273 | 228=>275 | 229=>91 | n=>n,fun | n=>n⟩
theorem Tryz.lays189:Go.Proofs.Lays.n189 Tryz.prog Tryz.lays189_ren:={
 mixed:=by kernel_rfl
 f125:=Tryz.func256.trans (congrArg some (by kernel_rfl))
 f128:=Tryz.func271.trans (congrArg some (by kernel_rfl))
 f129:=Tryz.func272.trans (congrArg some (by kernel_rfl))
 f189:=Tryz.func228.trans (congrArg some (by kernel_rfl))
 f215:=Tryz.func280.trans (congrArg some (by kernel_rfl))
 f216:=Tryz.func268.trans (congrArg some (by kernel_rfl))
 f257:=Tryz.func255.trans (congrArg some (by kernel_rfl))
 f294:=Tryz.func262.trans (congrArg some (by kernel_rfl))
 f295:=Tryz.func263.trans (congrArg some (by kernel_rfl))
 f296:=Tryz.func264.trans (congrArg some (by kernel_rfl))
 f297:=Tryz.func265.trans (congrArg some (by kernel_rfl))
 f298:=Tryz.func266.trans (congrArg some (by kernel_rfl))
 f299:=Tryz.func267.trans (congrArg some (by kernel_rfl))
 f300:=Tryz.func269.trans (congrArg some (by kernel_rfl))
 f301:=Tryz.func270.trans (congrArg some (by kernel_rfl))
 f328:=Tryz.func275.trans (congrArg some (by kernel_rfl))
 f329:=Tryz.func276.trans (congrArg some (by kernel_rfl))
 f330:=Tryz.func277.trans (congrArg some (by kernel_rfl))
 f331:=Tryz.func278.trans (congrArg some (by kernel_rfl))
 f332:=Tryz.func279.trans (congrArg some (by kernel_rfl))
 f343:=Tryz.func282.trans (congrArg some (by kernel_rfl))
 t0:=Tryz.underlying0
 a0:=Tryz.isAgg0
 z0:=Tryz.sizeOf0
 v0:=Tryz.zeroValue0
 t3:=Tryz.underlying3
 a3:=Tryz.isAgg3
 z3:=Tryz.sizeOf3
 v3:=Tryz.zeroValue3
 t4:=Tryz.underlying4
 a4:=Tryz.isAgg4
 z4:=Tryz.sizeOf4
 v4:=Tryz.zeroValue4
 t5:=Tryz.underlying5
 a5:=Tryz.isAgg5
 z5:=Tryz.sizeOf5
 v5:=Tryz.zeroValue5
 t9:=Tryz.underlying9
 a9:=Tryz.isAgg9
 z9:=Tryz.sizeOf9
 v9:=Tryz.zeroValue9
 t28:=Tryz.underlying27
 a28:=Tryz.isAgg27
 z28:=Tryz.sizeOf27
 v28:=Tryz.zeroValue27
 t46:=Tryz.underlying241
 a46:=Tryz.isAgg241
 z46:=Tryz.sizeOf241
 v46:=Tryz.zeroValue241
 t51:=Tryz.underlying267
 a51:=Tryz.isAgg267
 z51:=Tryz.sizeOf267
 v51:=Tryz.zeroValue267
 t53:=Tryz.underlying240
 a53:=Tryz.isAgg240
 z53:=Tryz.sizeOf240
 v53:=Tryz.zeroValue240
 t131:=Tryz.underlying111
 a131:=Tryz.isAgg111
 z131:=Tryz.sizeOf111
 v131:=Tryz.zeroValue111
 t182:=Tryz.underlying259
 a182:=Tryz.isAgg259
 z182:=Tryz.sizeOf259
 v182:=Tryz.zeroValue259
 t183:=Tryz.underlying260
 a183:=Tryz.isAgg260
 z183:=Tryz.sizeOf260
 v183:=Tryz.zeroValue260
 t218:=Tryz.underlying269
 a218:=Tryz.isAgg269
 z218:=Tryz.sizeOf269
 v218:=Tryz.zeroValue269
 t222:=Tryz.underlying273
 a222:=Tryz.isAgg273
 z222:=Tryz.sizeOf273
 v222:=Tryz.zeroValue273
 t228:=Tryz.underlying275
 a228:=Tryz.isAgg275
 z228:=Tryz.sizeOf275
 v228:=Tryz.zeroValue275
 t229:=Tryz.underlying91
 a229:=Tryz.isAgg91
 z229:=Tryz.sizeOf91
 v229:=Tryz.zeroValue91}
def Tryz.laysNm215_ren:Go.Shelf.Ren:=⟨fun | 15=>122 | n=>n,fun | 22=>27 | 3=>3 | 4=>4 | n=>n,fun | n=>n⟩
theorem Tryz.laysNm215:Go.Proofs.Lays2.n15 Tryz.prog Tryz.laysNm215_ren:={
 mixed:=by kernel_rfl
 f15:=Tryz.func122.trans (congrArg some (by kernel_rfl))
 t3:=Tryz.underlying3
 a3:=Tryz.isAgg3
 z3:=Tryz.sizeOf3
 v3:=Tryz.zeroValue3
 t4:=Tryz.underlying4
 a4:=Tryz.isAgg4
 z4:=Tryz.sizeOf4
 v4:=Tryz.zeroValue4
 t22:=Tryz.underlying27
 a22:=Tryz.isAgg27
 z22:=Tryz.sizeOf27
 v22:=Tryz.zeroValue27
 i3:=by kernel_rfl}
end Go.Proofs
