/-
  DERIVED: THE SHELF's CONTRACTS AT THIS DUMP, IN PLAIN WORDS (tools/lay-plain.mjs out of 'TryzShelf.lean', which tools/lay-shelf.mjs wrote): THE SAME DECLARATIONS UNDER THE SAME NAMES: 'import', 'namespace', 'open', 'def', 'theorem' AND NOTHING ELSE: no command of the shelf's: FOR A HAND-IN. Each laying: the table of numbers ('.._ren') and one theorem, a field a fact of the dump's own or the kernel's comparison; each contract: ONE APPLICATION.
-/
import Derived.Shelf.SlGeneric
import Derived.Ground.SlsfProg
import Derived.Shelf.SlSortCmp.NoneTotal
import Derived.Test.YtfhellopliifdaaGreatProg
namespace Go.Proofs
open Go.Shelf
def Tryz.sortLaid_ren : Go.Shelf.Ren := ⟨fun | 6 => 350 | 15 => 385 | 14 => 384 | 28 => 404 | 29 => 405 | 20 => 396 | 21 => 397 | 22 => 398 | 23 => 399 | 24 => 400 | 25 => 401 | 26 => 402 | 27 => 403 | 46 => 408 | 47 => 409 | 48 => 410 | 49 => 411 | 50 => 412 | 57 => 414 | n => n, fun | 22 => 88 | 24 => 268 | 25 => 289 | 3 => 3 | 39 => 173 | 0 => 0 | 53 => 324 | 55 => 326 | 4 => 4 | 46 => 318 | 45 => 317 | 50 => 141 | 5 => 5 | 9 => 9 | 66 => 327 | 70 => 251 | 76 => 333 | 77 => 42 | n => n, fun | n => n⟩
theorem Tryz.sortLaid : Go.Proofs.SlLaysF0.n6 Tryz.prog Tryz.sortLaid_ren := {
  mixed := by kernel_rfl
  f6 := ⟨Tryz.f350.name, by decide, Tryz.func350.trans (congrArg some (by kernel_rfl))⟩
  f14 := ⟨Tryz.f384.name, by decide, Tryz.func384.trans (congrArg some (by kernel_rfl))⟩
  f15 := Tryz.func385.trans (congrArg some (by kernel_rfl))
  f20 := ⟨Tryz.f396.name, by decide, Tryz.func396.trans (congrArg some (by kernel_rfl))⟩
  f21 := ⟨Tryz.f397.name, by decide, Tryz.func397.trans (congrArg some (by kernel_rfl))⟩
  f22 := ⟨Tryz.f398.name, by decide, Tryz.func398.trans (congrArg some (by kernel_rfl))⟩
  f23 := ⟨Tryz.f399.name, by decide, Tryz.func399.trans (congrArg some (by kernel_rfl))⟩
  f24 := ⟨Tryz.f400.name, by decide, Tryz.func400.trans (congrArg some (by kernel_rfl))⟩
  f25 := ⟨Tryz.f401.name, by decide, Tryz.func401.trans (congrArg some (by kernel_rfl))⟩
  f26 := ⟨Tryz.f402.name, by decide, Tryz.func402.trans (congrArg some (by kernel_rfl))⟩
  f27 := ⟨Tryz.f403.name, by decide, Tryz.func403.trans (congrArg some (by kernel_rfl))⟩
  f28 := Tryz.func404.trans (congrArg some (by kernel_rfl))
  f29 := Tryz.func405.trans (congrArg some (by kernel_rfl))
  f46 := ⟨Tryz.f408.name, by decide, Tryz.func408.trans (congrArg some (by kernel_rfl))⟩
  f47 := Tryz.func409.trans (congrArg some (by kernel_rfl))
  f48 := Tryz.func410.trans (congrArg some (by kernel_rfl))
  f49 := ⟨Tryz.f411.name, by decide, Tryz.func411.trans (congrArg some (by kernel_rfl))⟩
  f50 := ⟨Tryz.f412.name, by decide, Tryz.func412.trans (congrArg some (by kernel_rfl))⟩
  f57 := ⟨Tryz.f414.name, by decide, Tryz.func414.trans (congrArg some (by kernel_rfl))⟩
  t0 := Tryz.underlying0
  a0 := Tryz.isAgg0
  z0 := Tryz.sizeOf0
  v0 := Tryz.zeroValue0
  t3 := Tryz.underlying3
  a3 := Tryz.isAgg3
  z3 := Tryz.sizeOf3
  v3 := Tryz.zeroValue3
  t4 := Tryz.underlying4
  a4 := Tryz.isAgg4
  z4 := Tryz.sizeOf4
  v4 := Tryz.zeroValue4
  t5 := Tryz.underlying5
  a5 := Tryz.isAgg5
  z5 := Tryz.sizeOf5
  v5 := Tryz.zeroValue5
  t9 := Tryz.underlying9
  a9 := Tryz.isAgg9
  z9 := Tryz.sizeOf9
  v9 := Tryz.zeroValue9
  t22 := Tryz.underlying88
  a22 := Tryz.isAgg88
  z22 := Tryz.sizeOf88
  v22 := Tryz.zeroValue88
  t25 := Tryz.underlying289
  a25 := Tryz.isAgg289
  z25 := Tryz.sizeOf289
  v25 := Tryz.zeroValue289
  t39 := Tryz.underlying173
  a39 := Tryz.isAgg173
  z39 := Tryz.sizeOf173
  v39 := Tryz.zeroValue173
  t45 := Tryz.underlying317
  a45 := Tryz.isAgg317
  z45 := Tryz.sizeOf317
  v45 := Tryz.zeroValue317
  t46 := Tryz.underlying318
  a46 := Tryz.isAgg318
  z46 := Tryz.sizeOf318
  v46 := Tryz.zeroValue318
  t50 := Tryz.underlying141
  a50 := Tryz.isAgg141
  z50 := Tryz.sizeOf141
  v50 := Tryz.zeroValue141
  t53 := Tryz.underlying324
  a53 := Tryz.isAgg324
  z53 := Tryz.sizeOf324
  v53 := Tryz.zeroValue324
  t55 := Tryz.underlying326
  a55 := Tryz.isAgg326
  z55 := Tryz.sizeOf326
  v55 := Tryz.zeroValue326
  t66 := Tryz.underlying327
  a66 := Tryz.isAgg327
  z66 := Tryz.sizeOf327
  v66 := Tryz.zeroValue327
  t70 := Tryz.underlying251
  a70 := Tryz.isAgg251
  z70 := Tryz.sizeOf251
  v70 := Tryz.zeroValue251
  t76 := Tryz.underlying333
  a76 := Tryz.isAgg333
  z76 := Tryz.sizeOf333
  v76 := Tryz.zeroValue333
  t77 := Tryz.underlying42
  a77 := Tryz.isAgg42
  z77 := Tryz.sizeOf42
  v77 := Tryz.zeroValue42 }
end Go.Proofs
