/-
  The library's sort of numbers as it stands in this program (laid by the shelf's command, written in plain words by its tool).
-/
import Derived.Test.YtodbhmdfmdfiaaaChecked
import Derived.Ground.NamesProg
import Derived.Shelf.Sort.Plain
import Derived.Shelf.Slices.In.SortNone
namespace Go.Proofs
open Go.Shelf
def Try.lays189_ren : Go.Shelf.Ren := ⟨fun | 189 => 135 | 125 => 140 | 257 => 139 | 128 => 151 | 129 => 152 | 294 => 142 | 295 => 143 | 296 => 144 | 297 => 145 | 298 => 146 | 299 => 147 | 216 => 148 | 300 => 149 | 301 => 150 | 328 => 153 | 329 => 154 | 330 => 155 | 331 => 156 | 332 => 157 | 215 => 158 | 343 => 159 | n => n, fun | 28 => 29 | 3 => 3 | 46 => 161 | 0 => 0 | 51 => 183 | 53 => 136 | 4 => 4 | 183 => 176 | 182 => 175 | 131 => 130 | 5 => 5 | 9 => 9 | 218 => 185 | 222 => 189 | 228 => 191 | 229 => 128 | n => n, fun | n => n⟩
theorem Try.lays189 : Go.Proofs.Lays.n189 Try.prog Try.lays189_ren := {
  mixed := by kernel_rfl
  f125 := Try.func140.trans (congrArg some (by kernel_rfl))
  f128 := Try.func151.trans (congrArg some (by kernel_rfl))
  f129 := Try.func152.trans (congrArg some (by kernel_rfl))
  f189 := Try.func135.trans (congrArg some (by kernel_rfl))
  f215 := Try.func158.trans (congrArg some (by kernel_rfl))
  f216 := Try.func148.trans (congrArg some (by kernel_rfl))
  f257 := Try.func139.trans (congrArg some (by kernel_rfl))
  f294 := Try.func142.trans (congrArg some (by kernel_rfl))
  f295 := Try.func143.trans (congrArg some (by kernel_rfl))
  f296 := Try.func144.trans (congrArg some (by kernel_rfl))
  f297 := Try.func145.trans (congrArg some (by kernel_rfl))
  f298 := Try.func146.trans (congrArg some (by kernel_rfl))
  f299 := Try.func147.trans (congrArg some (by kernel_rfl))
  f300 := Try.func149.trans (congrArg some (by kernel_rfl))
  f301 := Try.func150.trans (congrArg some (by kernel_rfl))
  f328 := Try.func153.trans (congrArg some (by kernel_rfl))
  f329 := Try.func154.trans (congrArg some (by kernel_rfl))
  f330 := Try.func155.trans (congrArg some (by kernel_rfl))
  f331 := Try.func156.trans (congrArg some (by kernel_rfl))
  f332 := Try.func157.trans (congrArg some (by kernel_rfl))
  f343 := Try.func159.trans (congrArg some (by kernel_rfl))
  t0 := Try.underlying0
  a0 := Try.isAgg0
  z0 := Try.sizeOf0
  v0 := Try.zeroValue0
  t3 := Try.underlying3
  a3 := Try.isAgg3
  z3 := Try.sizeOf3
  v3 := Try.zeroValue3
  t4 := Try.underlying4
  a4 := Try.isAgg4
  z4 := Try.sizeOf4
  v4 := Try.zeroValue4
  t5 := Try.underlying5
  a5 := Try.isAgg5
  z5 := Try.sizeOf5
  v5 := Try.zeroValue5
  t9 := Try.underlying9
  a9 := Try.isAgg9
  z9 := Try.sizeOf9
  v9 := Try.zeroValue9
  t28 := Try.underlying29
  a28 := Try.isAgg29
  z28 := Try.sizeOf29
  v28 := Try.zeroValue29
  t46 := Try.underlying161
  a46 := Try.isAgg161
  z46 := Try.sizeOf161
  v46 := Try.zeroValue161
  t51 := Try.underlying183
  a51 := Try.isAgg183
  z51 := Try.sizeOf183
  v51 := Try.zeroValue183
  t53 := Try.underlying136
  a53 := Try.isAgg136
  z53 := Try.sizeOf136
  v53 := Try.zeroValue136
  t131 := Try.underlying130
  a131 := Try.isAgg130
  z131 := Try.sizeOf130
  v131 := Try.zeroValue130
  t182 := Try.underlying175
  a182 := Try.isAgg175
  z182 := Try.sizeOf175
  v182 := Try.zeroValue175
  t183 := Try.underlying176
  a183 := Try.isAgg176
  z183 := Try.sizeOf176
  v183 := Try.zeroValue176
  t218 := Try.underlying185
  a218 := Try.isAgg185
  z218 := Try.sizeOf185
  v218 := Try.zeroValue185
  t222 := Try.underlying189
  a222 := Try.isAgg189
  z222 := Try.sizeOf189
  v222 := Try.zeroValue189
  t228 := Try.underlying191
  a228 := Try.isAgg191
  z228 := Try.sizeOf191
  v228 := Try.zeroValue191
  t229 := Try.underlying128
  a229 := Try.isAgg128
  z229 := Try.sizeOf128
  v229 := Try.zeroValue128 }
end Go.Proofs
