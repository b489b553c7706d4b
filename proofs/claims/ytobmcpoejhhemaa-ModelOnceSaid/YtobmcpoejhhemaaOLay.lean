import Derived.Test.YtobmcpoejhhemaaOEngS
import Derived.Test.YtobmcpoejhhemaaProg
namespace Go.Proofs.Ytobmcpoejhhemaa
open Go Go.E Go.Proofs Go.Shelf

def laySortKey_ren : Go.Shelf.Ren := ⟨fun | 6 => 120 | 15 => 139 | 14 => 160 | 28 => 175 | 29 => 176 | 20 => 190 | 21 => 191 | 22 => 192 | 23 => 193 | 24 => 194 | 25 => 195 | 26 => 196 | 27 => 197 | 46 => 211 | 47 => 205 | 48 => 206 | 49 => 212 | 50 => 213 | 57 => 216 | n => n, fun | 22 => 86 | 24 => 27 | 25 => 202 | 3 => 3 | 39 => 220 | 0 => 0 | 53 => 77 | 55 => 30 | 4 => 4 | 46 => 259 | 45 => 258 | 50 => 263 | 5 => 5 | 9 => 9 | 66 => 277 | 70 => 280 | 76 => 285 | 77 => 119 | n => n, fun n => n⟩
theorem laySortKey : SlLaysF0.n6 Try.prog laySortKey_ren where
  mixed := by kernel_rfl
  f6 := ⟨Try.f120.name, by kernel_rfl, Try.func120.trans (congrArg some (by kernel_rfl))⟩
  f14 := ⟨Try.f160.name, by kernel_rfl, Try.func160.trans (congrArg some (by kernel_rfl))⟩
  f15 := Try.func139.trans (congrArg some (by kernel_rfl))
  f20 := ⟨Try.f190.name, by kernel_rfl, Try.func190.trans (congrArg some (by kernel_rfl))⟩
  f21 := ⟨Try.f191.name, by kernel_rfl, Try.func191.trans (congrArg some (by kernel_rfl))⟩
  f22 := ⟨Try.f192.name, by kernel_rfl, Try.func192.trans (congrArg some (by kernel_rfl))⟩
  f23 := ⟨Try.f193.name, by kernel_rfl, Try.func193.trans (congrArg some (by kernel_rfl))⟩
  f24 := ⟨Try.f194.name, by kernel_rfl, Try.func194.trans (congrArg some (by kernel_rfl))⟩
  f25 := ⟨Try.f195.name, by kernel_rfl, Try.func195.trans (congrArg some (by kernel_rfl))⟩
  f26 := ⟨Try.f196.name, by kernel_rfl, Try.func196.trans (congrArg some (by kernel_rfl))⟩
  f27 := ⟨Try.f197.name, by kernel_rfl, Try.func197.trans (congrArg some (by kernel_rfl))⟩
  f28 := Try.func175.trans (congrArg some (by kernel_rfl))
  f29 := Try.func176.trans (congrArg some (by kernel_rfl))
  f46 := ⟨Try.f211.name, by kernel_rfl, Try.func211.trans (congrArg some (by kernel_rfl))⟩
  f47 := Try.func205.trans (congrArg some (by kernel_rfl))
  f48 := Try.func206.trans (congrArg some (by kernel_rfl))
  f49 := ⟨Try.f212.name, by kernel_rfl, Try.func212.trans (congrArg some (by kernel_rfl))⟩
  f50 := ⟨Try.f213.name, by kernel_rfl, Try.func213.trans (congrArg some (by kernel_rfl))⟩
  f57 := ⟨Try.f216.name, by kernel_rfl, Try.func216.trans (congrArg some (by kernel_rfl))⟩
  t0 := Try.underlying0
  a0 := Try.isAgg0
  z0 := Try.sizeOf0
  v0 := Try.zeroValue0
  t3 := Try.underlying3
  a3 := Try.isAgg3
  z3 := Try.sizeOf3
  v3 := Try.zeroValue3
  t4 := Try.underlying4
  a4 := Try.isAgg4
  z4 := Try.sizeOf4
  v4 := Try.zeroValue4
  t5 := Try.underlying5
  a5 := Try.isAgg5
  z5 := Try.sizeOf5
  v5 := Try.zeroValue5
  t9 := Try.underlying9
  a9 := Try.isAgg9
  z9 := Try.sizeOf9
  v9 := Try.zeroValue9
  t22 := Try.underlying86
  a22 := Try.isAgg86
  z22 := Try.sizeOf86
  v22 := Try.zeroValue86
  t25 := Try.underlying202
  a25 := Try.isAgg202
  z25 := Try.sizeOf202
  v25 := Try.zeroValue202
  t39 := Try.underlying220
  a39 := Try.isAgg220
  z39 := Try.sizeOf220
  v39 := Try.zeroValue220
  t45 := Try.underlying258
  a45 := Try.isAgg258
  z45 := Try.sizeOf258
  v45 := Try.zeroValue258
  t46 := Try.underlying259
  a46 := Try.isAgg259
  z46 := Try.sizeOf259
  v46 := Try.zeroValue259
  t50 := Try.underlying263
  a50 := Try.isAgg263
  z50 := Try.sizeOf263
  v50 := Try.zeroValue263
  t53 := Try.underlying77
  a53 := Try.isAgg77
  z53 := Try.sizeOf77
  v53 := Try.zeroValue77
  t55 := Try.underlying30
  a55 := Try.isAgg30
  z55 := Try.sizeOf30
  v55 := Try.zeroValue30
  t66 := Try.underlying277
  a66 := Try.isAgg277
  z66 := Try.sizeOf277
  v66 := Try.zeroValue277
  t70 := Try.underlying280
  a70 := Try.isAgg280
  z70 := Try.sizeOf280
  v70 := Try.zeroValue280
  t76 := Try.underlying285
  a76 := Try.isAgg285
  z76 := Try.sizeOf285
  v76 := Try.zeroValue285
  t77 := Try.underlying119
  a77 := Try.isAgg119
  z77 := Try.sizeOf119
  v77 := Try.zeroValue119

end Go.Proofs.Ytobmcpoejhhemaa
