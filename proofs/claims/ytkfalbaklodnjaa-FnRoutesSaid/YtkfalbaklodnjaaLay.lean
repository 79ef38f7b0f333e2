/-
  slices.Sort and slices.Compact at int, as the program bears them: the library's own structures, filled.
-/
import Derived.Test.YtkfalbaklodnjaaProg
import Derived.Test.YtkfalbaklodnjaaSrt
namespace Go.Proofs.Ytkfalbaklodnjaa.Lay
open Go Go.Shelf Go.Proofs
def laysSortRen : Ren := ⟨fun | 125 => 180 | 128 => 216 | 129 => 217 | 189 => 115 | 215 => 184 | 216 => 213 | 257 => 179 | 294 => 207 | 295 => 208 | 296 => 209 | 297 => 210 | 298 => 211 | 299 => 212 | 300 => 214 | 301 => 215 | 328 => 226 | 329 => 227 | 330 => 228 | 331 => 229 | 332 => 230 | 343 => 233 | n => n, fun | 0 => 0 | 3 => 3 | 4 => 4 | 5 => 5 | 9 => 9 | 28 => 39 | 46 => 198 | 51 => 220 | 53 => 222 | 131 => 217 | 182 => 212 | 183 => 213 | 218 => 229 | 222 => 233 | 228 => 236 | 229 => 237 | n => n, fun  | n => n⟩
theorem laysSort : Lays.n189 Try.prog laysSortRen where
  mixed := by kernel_rfl
  f125 := Try.func180.trans (congrArg some (by kernel_rfl))
  f128 := Try.func216.trans (congrArg some (by kernel_rfl))
  f129 := Try.func217.trans (congrArg some (by kernel_rfl))
  f189 := Try.func115.trans (congrArg some (by kernel_rfl))
  f215 := Try.func184.trans (congrArg some (by kernel_rfl))
  f216 := Try.func213.trans (congrArg some (by kernel_rfl))
  f257 := Try.func179.trans (congrArg some (by kernel_rfl))
  f294 := Try.func207.trans (congrArg some (by kernel_rfl))
  f295 := Try.func208.trans (congrArg some (by kernel_rfl))
  f296 := Try.func209.trans (congrArg some (by kernel_rfl))
  f297 := Try.func210.trans (congrArg some (by kernel_rfl))
  f298 := Try.func211.trans (congrArg some (by kernel_rfl))
  f299 := Try.func212.trans (congrArg some (by kernel_rfl))
  f300 := Try.func214.trans (congrArg some (by kernel_rfl))
  f301 := Try.func215.trans (congrArg some (by kernel_rfl))
  f328 := Try.func226.trans (congrArg some (by kernel_rfl))
  f329 := Try.func227.trans (congrArg some (by kernel_rfl))
  f330 := Try.func228.trans (congrArg some (by kernel_rfl))
  f331 := Try.func229.trans (congrArg some (by kernel_rfl))
  f332 := Try.func230.trans (congrArg some (by kernel_rfl))
  f343 := Try.func233.trans (congrArg some (by kernel_rfl))
  t0 := Try.underlying0
  a0 := Try.isAgg0
  z0 := Try.sizeOf0
  v0 := Try.zeroValue0
  t3 := Try.underlying3
  a3 := Try.isAgg3
  z3 := Try.sizeOf3
  v3 := Try.zeroValue3
  t4 := Try.underlying4
  a4 := Try.isAgg4
  z4 := Try.sizeOf4
  v4 := Try.zeroValue4
  t5 := Try.underlying5
  a5 := Try.isAgg5
  z5 := Try.sizeOf5
  v5 := Try.zeroValue5
  t9 := Try.underlying9
  a9 := Try.isAgg9
  z9 := Try.sizeOf9
  v9 := Try.zeroValue9
  t28 := Try.underlying39
  a28 := Try.isAgg39
  z28 := Try.sizeOf39
  v28 := Try.zeroValue39
  t46 := Try.underlying198
  a46 := Try.isAgg198
  z46 := Try.sizeOf198
  v46 := Try.zeroValue198
  t51 := Try.underlying220
  a51 := Try.isAgg220
  z51 := Try.sizeOf220
  v51 := Try.zeroValue220
  t53 := Try.underlying222
  a53 := Try.isAgg222
  z53 := Try.sizeOf222
  v53 := Try.zeroValue222
  t131 := Try.underlying217
  a131 := Try.isAgg217
  z131 := Try.sizeOf217
  v131 := Try.zeroValue217
  t182 := Try.underlying212
  a182 := Try.isAgg212
  z182 := Try.sizeOf212
  v182 := Try.zeroValue212
  t183 := Try.underlying213
  a183 := Try.isAgg213
  z183 := Try.sizeOf213
  v183 := Try.zeroValue213
  t218 := Try.underlying229
  a218 := Try.isAgg229
  z218 := Try.sizeOf229
  v218 := Try.zeroValue229
  t222 := Try.underlying233
  a222 := Try.isAgg233
  z222 := Try.sizeOf233
  v222 := Try.zeroValue233
  t228 := Try.underlying236
  a228 := Try.isAgg236
  z228 := Try.sizeOf236
  v228 := Try.zeroValue236
  t229 := Try.underlying237
  a229 := Try.isAgg237
  z229 := Try.sizeOf237
  v229 := Try.zeroValue237
def laysCompactRen : Ren := ⟨fun | 20 => 116 | n => n, fun | 0 => 0 | 3 => 3 | 4 => 4 | 22 => 39 | n => n, fun  | n => n⟩
theorem laysCompact : Lays2.n20 Try.prog laysCompactRen where
  mixed := by kernel_rfl
  f20 := Try.func116.trans (congrArg some (by kernel_rfl))
  t0 := Try.underlying0
  a0 := Try.isAgg0
  z0 := Try.sizeOf0
  v0 := Try.zeroValue0
  t3 := Try.underlying3
  a3 := Try.isAgg3
  z3 := Try.sizeOf3
  v3 := Try.zeroValue3
  t4 := Try.underlying4
  a4 := Try.isAgg4
  z4 := Try.sizeOf4
  v4 := Try.zeroValue4
  t22 := Try.underlying39
  a22 := Try.isAgg39
  z22 := Try.sizeOf39
  v22 := Try.zeroValue39
  i3 := by kernel_rfl
end Go.Proofs.Ytkfalbaklodnjaa.Lay
