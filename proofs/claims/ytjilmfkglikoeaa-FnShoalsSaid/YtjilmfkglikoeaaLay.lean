import Derived.Shelf.SlGeneric
import Derived.Shelf.SlSortCmp.NoneTotal
import Derived.Ground.SlsfProg
import Derived.Test.YtjilmfkglikoeaaProg
/- The library's sort, laid at this program: its bodies are those that the contract was proved of. -/
section
set_option linter.unusedSimpArgs false
set_option linter.deprecated false
set_option linter.unusedSectionVars false
set_option maxRecDepth 100000
namespace Go.Proofs
open Go.Shelf
def Try.sortPair_ren : Go.Shelf.Ren := ⟨fun | 6 => 124 | 15 => 198 | 14 => 197 | 28 => 246 | 29 => 247 | 20 => 238 | 21 => 239 | 22 => 240 | 23 => 241 | 24 => 242 | 25 => 243 | 26 => 244 | 27 => 245 | 46 => 257 | 47 => 258 | 48 => 259 | 49 => 260 | 50 => 261 | 57 => 271 | n => n, fun | 22 => 185 | 24 => 186 | 25 => 189 | 3 => 3 | 39 => 258 | 0 => 0 | 53 => 298 | 55 => 300 | 4 => 4 | 46 => 292 | 45 => 291 | 50 => 73 | 5 => 5 | 9 => 9 | 66 => 310 | 70 => 314 | 76 => 322 | 77 => 323 | n => n, fun | n => n⟩
theorem Try.sortPair : Go.Proofs.SlLaysF0.n6 Try.prog Try.sortPair_ren := {
  mixed := by kernel_rfl
  f6 := ⟨Try.f124.name, by decide, Try.func124.trans (congrArg some (by kernel_rfl))⟩
  f14 := ⟨Try.f197.name, by decide, Try.func197.trans (congrArg some (by kernel_rfl))⟩
  f15 := Try.func198.trans (congrArg some (by kernel_rfl))
  f20 := ⟨Try.f238.name, by decide, Try.func238.trans (congrArg some (by kernel_rfl))⟩
  f21 := ⟨Try.f239.name, by decide, Try.func239.trans (congrArg some (by kernel_rfl))⟩
  f22 := ⟨Try.f240.name, by decide, Try.func240.trans (congrArg some (by kernel_rfl))⟩
  f23 := ⟨Try.f241.name, by decide, Try.func241.trans (congrArg some (by kernel_rfl))⟩
  f24 := ⟨Try.f242.name, by decide, Try.func242.trans (congrArg some (by kernel_rfl))⟩
  f25 := ⟨Try.f243.name, by decide, Try.func243.trans (congrArg some (by kernel_rfl))⟩
  f26 := ⟨Try.f244.name, by decide, Try.func244.trans (congrArg some (by kernel_rfl))⟩
  f27 := ⟨Try.f245.name, by decide, Try.func245.trans (congrArg some (by kernel_rfl))⟩
  f28 := Try.func246.trans (congrArg some (by kernel_rfl))
  f29 := Try.func247.trans (congrArg some (by kernel_rfl))
  f46 := ⟨Try.f257.name, by decide, Try.func257.trans (congrArg some (by kernel_rfl))⟩
  f47 := Try.func258.trans (congrArg some (by kernel_rfl))
  f48 := Try.func259.trans (congrArg some (by kernel_rfl))
  f49 := ⟨Try.f260.name, by decide, Try.func260.trans (congrArg some (by kernel_rfl))⟩
  f50 := ⟨Try.f261.name, by decide, Try.func261.trans (congrArg some (by kernel_rfl))⟩
  f57 := ⟨Try.f271.name, by decide, Try.func271.trans (congrArg some (by kernel_rfl))⟩
  t0 := Try.underlying0
  a0 := Try.isAgg0
  z0 := Try.sizeOf0
  v0 := Try.zeroValue0
  t3 := Try.underlying3
  a3 := Try.isAgg3
  z3 := Try.sizeOf3
  v3 := Try.zeroValue3
  t4 := Try.underlying4
  a4 := Try.isAgg4
  z4 := Try.sizeOf4
  v4 := Try.zeroValue4
  t5 := Try.underlying5
  a5 := Try.isAgg5
  z5 := Try.sizeOf5
  v5 := Try.zeroValue5
  t9 := Try.underlying9
  a9 := Try.isAgg9
  z9 := Try.sizeOf9
  v9 := Try.zeroValue9
  t22 := Try.underlying185
  a22 := Try.isAgg185
  z22 := Try.sizeOf185
  v22 := Try.zeroValue185
  t25 := Try.underlying189
  a25 := Try.isAgg189
  z25 := Try.sizeOf189
  v25 := Try.zeroValue189
  t39 := Try.underlying258
  a39 := Try.isAgg258
  z39 := Try.sizeOf258
  v39 := Try.zeroValue258
  t45 := Try.underlying291
  a45 := Try.isAgg291
  z45 := Try.sizeOf291
  v45 := Try.zeroValue291
  t46 := Try.underlying292
  a46 := Try.isAgg292
  z46 := Try.sizeOf292
  v46 := Try.zeroValue292
  t50 := Try.underlying73
  a50 := Try.isAgg73
  z50 := Try.sizeOf73
  v50 := Try.zeroValue73
  t53 := Try.underlying298
  a53 := Try.isAgg298
  z53 := Try.sizeOf298
  v53 := Try.zeroValue298
  t55 := Try.underlying300
  a55 := Try.isAgg300
  z55 := Try.sizeOf300
  v55 := Try.zeroValue300
  t66 := Try.underlying310
  a66 := Try.isAgg310
  z66 := Try.sizeOf310
  v66 := Try.zeroValue310
  t70 := Try.underlying314
  a70 := Try.isAgg314
  z70 := Try.sizeOf314
  v70 := Try.zeroValue314
  t76 := Try.underlying322
  a76 := Try.isAgg322
  z76 := Try.sizeOf322
  v76 := Try.zeroValue322
  t77 := Try.underlying323
  a77 := Try.isAgg323
  z77 := Try.sizeOf323
  v77 := Try.zeroValue323 }
end Go.Proofs
namespace Go.Sm
open Go.Proofs
theorem lay124 : SlLaysF0.n6 Try.prog Try.sortPair_ren := Try.sortPair
end Go.Sm
end
