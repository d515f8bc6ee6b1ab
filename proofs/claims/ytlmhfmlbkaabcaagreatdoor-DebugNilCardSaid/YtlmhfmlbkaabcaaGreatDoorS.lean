/- The contracts of three functions of the library at this translation, in plain words. No condition. -/
import Derived.Shelf.SlIterI.Nil
import Derived.Shelf.SortM.Plain
import Derived.Shelf.SortM.SortNone
import Derived.Shelf.SlMaps.Clone
import Derived.Ground.GgzProg
import Derived.Ground.SlgmProg
import Derived.Ground.SlmcProg
import Derived.Test.YtlmhfmlbkaabcaaGreatDoorProg
set_option linter.all false
set_option linter.unusedVariables false
set_option linter.unusedSimpArgs false
namespace Go.Proofs
open Go.Shelf
def Tryz.cloneA_ren : Go.Shelf.Ren := ⟨fun | 5 => 162 | 7 => 231 | n => n, fun | 23 => 313 | 25 => 3 | 3 => 184 | 4 => 4 | 20 => 20 | n => n, fun | n => n⟩
theorem Tryz.cloneA : Go.Proofs.SlLaysW.n5 Tryz.prog Tryz.cloneA_ren := {
  mixed := by kernel_rfl
  f5 := ⟨Tryz.f162.name, by decide, Tryz.func162.trans (congrArg some (by kernel_rfl))⟩
  f7 := Tryz.func231.trans (congrArg some (by kernel_rfl))
  t4 := Tryz.underlying4
  a4 := Tryz.isAgg4
  z4 := Tryz.sizeOf4
  v4 := Tryz.zeroValue4
  t20 := Tryz.underlying20
  a20 := Tryz.isAgg20
  z20 := Tryz.sizeOf20
  v20 := Tryz.zeroValue20
  t23 := Tryz.underlying313
  a23 := Tryz.isAgg313
  z23 := Tryz.sizeOf313
  v23 := Tryz.zeroValue313 }
def Tryz.keysA_ren : Go.Shelf.Ren := ⟨fun | 7 => 237 | 10 => 313 | n => n, fun | 23 => 313 | 26 => 3 | 3 => 184 | 28 => 396 | 0 => 0 | 27 => 395 | 33 => 186 | 4 => 4 | n => n, fun | n => n⟩
theorem Tryz.keysA : Go.Proofs.SlLaysZI.n7 Tryz.prog Tryz.keysA_ren := {
  mixed := by kernel_rfl
  f7 := ⟨Tryz.f237.name, by decide, Tryz.func237.trans (congrArg some (by kernel_rfl))⟩
  f10 := ⟨Tryz.f313.name, by decide, Tryz.func313.trans (congrArg some (by kernel_rfl))⟩
  t0 := Tryz.underlying0
  a0 := Tryz.isAgg0
  z0 := Tryz.sizeOf0
  v0 := Tryz.zeroValue0
  t4 := Tryz.underlying4
  a4 := Tryz.isAgg4
  z4 := Tryz.sizeOf4
  v4 := Tryz.zeroValue4
  t23 := Tryz.underlying313
  a23 := Tryz.isAgg313
  z23 := Tryz.sizeOf313
  v23 := Tryz.zeroValue313
  t26 := Tryz.underlying3
  a26 := Tryz.isAgg3
  z26 := Tryz.sizeOf3
  v26 := Tryz.zeroValue3
  t27 := Tryz.underlying395
  a27 := Tryz.isAgg395
  z27 := Tryz.sizeOf395
  v27 := Tryz.zeroValue395
  t28 := Tryz.underlying396
  a28 := Tryz.isAgg396
  z28 := Tryz.sizeOf396
  v28 := Tryz.zeroValue396
  t33 := Tryz.underlying186
  a33 := Tryz.isAgg186
  z33 := Tryz.sizeOf186
  v33 := Tryz.zeroValue186 }
def Tryz.sortedA_ren : Go.Shelf.Ren := ⟨fun | 6 => 236 | 8 => 312 | 9 => 156 | 11 => 382 | 13 => 230 | 12 => 229 | 23 => 310 | 24 => 311 | 14 => 301 | 15 => 302 | 16 => 303 | 17 => 304 | 18 => 305 | 19 => 306 | 20 => 307 | 21 => 308 | 22 => 309 | 25 => 376 | 26 => 377 | 27 => 378 | 28 => 379 | 29 => 380 | 30 => 381 | 31 => 447 | n => n, fun | 26 => 3 | 28 => 396 | 24 => 120 | 0 => 0 | 3 => 3 | 37 => 305 | 48 => 383 | 50 => 386 | 4 => 4 | 40 => 464 | 39 => 463 | 45 => 110 | 5 => 5 | 9 => 9 | 51 => 522 | 55 => 526 | 57 => 566 | 58 => 537 | 33 => 186 | n => n, fun | n => n⟩
theorem Tryz.sortedA : Go.Proofs.SlLaysZI.n6 Tryz.prog Tryz.sortedA_ren := {
  mixed := by kernel_rfl
  f6 := ⟨Tryz.f236.name, by decide, Tryz.func236.trans (congrArg some (by kernel_rfl))⟩
  f8 := ⟨Tryz.f312.name, by decide, Tryz.func312.trans (congrArg some (by kernel_rfl))⟩
  f11 := ⟨Tryz.f382.name, by decide, Tryz.func382.trans (congrArg some (by kernel_rfl))⟩
  t0 := Tryz.underlying0
  a0 := Tryz.isAgg0
  z0 := Tryz.sizeOf0
  v0 := Tryz.zeroValue0
  t24 := Tryz.underlying120
  a24 := Tryz.isAgg120
  z24 := Tryz.sizeOf120
  v24 := Tryz.zeroValue120
  t26 := Tryz.underlying3
  a26 := Tryz.isAgg3
  z26 := Tryz.sizeOf3
  v26 := Tryz.zeroValue3
  t28 := Tryz.underlying396
  a28 := Tryz.isAgg396
  z28 := Tryz.sizeOf396
  v28 := Tryz.zeroValue396
  i26 := by kernel_rfl }
def Tryz.sortA_ren : Go.Shelf.Ren := ⟨fun | 5 => 156 | 8 => 230 | 7 => 229 | 19 => 310 | 20 => 311 | 10 => 301 | 11 => 302 | 12 => 303 | 13 => 304 | 14 => 305 | 15 => 306 | 16 => 307 | 17 => 308 | 18 => 309 | 30 => 376 | 31 => 377 | 32 => 378 | 33 => 379 | 34 => 380 | 35 => 381 | 40 => 447 | n => n, fun | 23 => 120 | 25 => 3 | 3 => 3 | 32 => 305 | 22 => 120 | 0 => 0 | 44 => 383 | 46 => 386 | 4 => 4 | 36 => 464 | 35 => 463 | 41 => 110 | 5 => 5 | 9 => 9 | 53 => 522 | 57 => 526 | 63 => 566 | 64 => 537 | n => n, fun | n => n⟩
theorem Tryz.sortA : Go.Proofs.SlLaysM.n5 Tryz.prog Tryz.sortA_ren := {
  mixed := by kernel_rfl
  f5 := ⟨Tryz.f156.name, by decide, Tryz.func156.trans (congrArg some (by kernel_rfl))⟩
  f7 := ⟨Tryz.f229.name, by decide, Tryz.func229.trans (congrArg some (by kernel_rfl))⟩
  f8 := Tryz.func230.trans (congrArg some (by kernel_rfl))
  f10 := ⟨Tryz.f301.name, by decide, Tryz.func301.trans (congrArg some (by kernel_rfl))⟩
  f11 := ⟨Tryz.f302.name, by decide, Tryz.func302.trans (congrArg some (by kernel_rfl))⟩
  f12 := ⟨Tryz.f303.name, by decide, Tryz.func303.trans (congrArg some (by kernel_rfl))⟩
  f13 := ⟨Tryz.f304.name, by decide, Tryz.func304.trans (congrArg some (by kernel_rfl))⟩
  f14 := ⟨Tryz.f305.name, by decide, Tryz.func305.trans (congrArg some (by kernel_rfl))⟩
  f15 := ⟨Tryz.f306.name, by decide, Tryz.func306.trans (congrArg some (by kernel_rfl))⟩
  f16 := ⟨Tryz.f307.name, by decide, Tryz.func307.trans (congrArg some (by kernel_rfl))⟩
  f17 := ⟨Tryz.f308.name, by decide, Tryz.func308.trans (congrArg some (by kernel_rfl))⟩
  f18 := ⟨Tryz.f309.name, by decide, Tryz.func309.trans (congrArg some (by kernel_rfl))⟩
  f19 := Tryz.func310.trans (congrArg some (by kernel_rfl))
  f20 := Tryz.func311.trans (congrArg some (by kernel_rfl))
  f30 := ⟨Tryz.f376.name, by decide, Tryz.func376.trans (congrArg some (by kernel_rfl))⟩
  f31 := Tryz.func377.trans (congrArg some (by kernel_rfl))
  f32 := Tryz.func378.trans (congrArg some (by kernel_rfl))
  f33 := ⟨Tryz.f379.name, by decide, Tryz.func379.trans (congrArg some (by kernel_rfl))⟩
  f34 := ⟨Tryz.f380.name, by decide, Tryz.func380.trans (congrArg some (by kernel_rfl))⟩
  f35 := ⟨Tryz.f381.name, by decide, Tryz.func381.trans (congrArg some (by kernel_rfl))⟩
  f40 := ⟨Tryz.f447.name, by decide, Tryz.func447.trans (congrArg some (by kernel_rfl))⟩
  t0 := Tryz.underlying0
  a0 := Tryz.isAgg0
  z0 := Tryz.sizeOf0
  v0 := Tryz.zeroValue0
  t3 := Tryz.underlying3
  a3 := Tryz.isAgg3
  z3 := Tryz.sizeOf3
  v3 := Tryz.zeroValue3
  t4 := Tryz.underlying4
  a4 := Tryz.isAgg4
  z4 := Tryz.sizeOf4
  v4 := Tryz.zeroValue4
  t5 := Tryz.underlying5
  a5 := Tryz.isAgg5
  z5 := Tryz.sizeOf5
  v5 := Tryz.zeroValue5
  t9 := Tryz.underlying9
  a9 := Tryz.isAgg9
  z9 := Tryz.sizeOf9
  v9 := Tryz.zeroValue9
  t22 := Tryz.underlying120
  a22 := Tryz.isAgg120
  z22 := Tryz.sizeOf120
  v22 := Tryz.zeroValue120
  t23 := Tryz.underlying120
  a23 := Tryz.isAgg120
  z23 := Tryz.sizeOf120
  v23 := Tryz.zeroValue120
  t25 := Tryz.underlying3
  a25 := Tryz.isAgg3
  z25 := Tryz.sizeOf3
  v25 := Tryz.zeroValue3
  t32 := Tryz.underlying305
  a32 := Tryz.isAgg305
  z32 := Tryz.sizeOf305
  v32 := Tryz.zeroValue305
  t35 := Tryz.underlying463
  a35 := Tryz.isAgg463
  z35 := Tryz.sizeOf463
  v35 := Tryz.zeroValue463
  t36 := Tryz.underlying464
  a36 := Tryz.isAgg464
  z36 := Tryz.sizeOf464
  v36 := Tryz.zeroValue464
  t41 := Tryz.underlying110
  a41 := Tryz.isAgg110
  z41 := Tryz.sizeOf110
  v41 := Tryz.zeroValue110
  t44 := Tryz.underlying383
  a44 := Tryz.isAgg383
  z44 := Tryz.sizeOf383
  v44 := Tryz.zeroValue383
  t46 := Tryz.underlying386
  a46 := Tryz.isAgg386
  z46 := Tryz.sizeOf386
  v46 := Tryz.zeroValue386
  t53 := Tryz.underlying522
  a53 := Tryz.isAgg522
  z53 := Tryz.sizeOf522
  v53 := Tryz.zeroValue522
  t57 := Tryz.underlying526
  a57 := Tryz.isAgg526
  z57 := Tryz.sizeOf526
  v57 := Tryz.zeroValue526
  t63 := Tryz.underlying566
  a63 := Tryz.isAgg566
  z63 := Tryz.sizeOf566
  v63 := Tryz.zeroValue566
  t64 := Tryz.underlying537
  a64 := Tryz.isAgg537
  z64 := Tryz.sizeOf537
  v64 := Tryz.zeroValue537 }
end Go.Proofs
