import Derived.Ground.NamesProg
import Derived.Shelf.Lays
import Derived.Shelf.SlGeneric
import Derived.Shelf.SlSortCmp.NoneTotal
import Derived.Ground.SlsfProg
import Derived.Test.YtakllmgiobpmgaaProg
/- The library's sort, laid at this program: its bodies are those that the contract was proved of. -/
section
set_option linter.unusedSimpArgs false
set_option linter.deprecated false
set_option linter.unusedSectionVars false
set_option maxRecDepth 100000
namespace Go.Proofs
open Go.Shelf
def Try.sortBillF_ren : Go.Shelf.Ren := ⟨fun | 6 => 121 | 15 => 167 | 14 => 180 | 28 => 209 | 29 => 210 | 20 => 214 | 21 => 215 | 22 => 216 | 23 => 217 | 24 => 218 | 25 => 219 | 26 => 220 | 27 => 221 | 46 => 240 | 47 => 235 | 48 => 236 | 49 => 241 | 50 => 242 | 57 => 249 | n => n, fun | 22 => 66 | 24 => 84 | 25 => 150 | 3 => 3 | 39 => 187 | 0 => 0 | 53 => 226 | 55 => 228 | 4 => 4 | 46 => 220 | 45 => 219 | 50 => 56 | 5 => 5 | 9 => 9 | 66 => 241 | 70 => 245 | 76 => 253 | 77 => 254 | n => n, fun | n => n⟩
theorem Try.sortBillF : Go.Proofs.SlLaysF0.n6 Try.prog Try.sortBillF_ren := {
  mixed := by kernel_rfl
  f6 := ⟨Try.f121.name, by decide, Try.func121.trans (congrArg some (by kernel_rfl))⟩
  f14 := ⟨Try.f180.name, by decide, Try.func180.trans (congrArg some (by kernel_rfl))⟩
  f15 := Try.func167.trans (congrArg some (by kernel_rfl))
  f20 := ⟨Try.f214.name, by decide, Try.func214.trans (congrArg some (by kernel_rfl))⟩
  f21 := ⟨Try.f215.name, by decide, Try.func215.trans (congrArg some (by kernel_rfl))⟩
  f22 := ⟨Try.f216.name, by decide, Try.func216.trans (congrArg some (by kernel_rfl))⟩
  f23 := ⟨Try.f217.name, by decide, Try.func217.trans (congrArg some (by kernel_rfl))⟩
  f24 := ⟨Try.f218.name, by decide, Try.func218.trans (congrArg some (by kernel_rfl))⟩
  f25 := ⟨Try.f219.name, by decide, Try.func219.trans (congrArg some (by kernel_rfl))⟩
  f26 := ⟨Try.f220.name, by decide, Try.func220.trans (congrArg some (by kernel_rfl))⟩
  f27 := ⟨Try.f221.name, by decide, Try.func221.trans (congrArg some (by kernel_rfl))⟩
  f28 := Try.func209.trans (congrArg some (by kernel_rfl))
  f29 := Try.func210.trans (congrArg some (by kernel_rfl))
  f46 := ⟨Try.f240.name, by decide, Try.func240.trans (congrArg some (by kernel_rfl))⟩
  f47 := Try.func235.trans (congrArg some (by kernel_rfl))
  f48 := Try.func236.trans (congrArg some (by kernel_rfl))
  f49 := ⟨Try.f241.name, by decide, Try.func241.trans (congrArg some (by kernel_rfl))⟩
  f50 := ⟨Try.f242.name, by decide, Try.func242.trans (congrArg some (by kernel_rfl))⟩
  f57 := ⟨Try.f249.name, by decide, Try.func249.trans (congrArg some (by kernel_rfl))⟩
  t0 := Try.underlying0
  a0 := Try.isAgg0
  z0 := Try.sizeOf0
  v0 := Try.zeroValue0
  t3 := Try.underlying3
  a3 := Try.isAgg3
  z3 := Try.sizeOf3
  v3 := Try.zeroValue3
  t4 := Try.underlying4
  a4 := Try.isAgg4
  z4 := Try.sizeOf4
  v4 := Try.zeroValue4
  t5 := Try.underlying5
  a5 := Try.isAgg5
  z5 := Try.sizeOf5
  v5 := Try.zeroValue5
  t9 := Try.underlying9
  a9 := Try.isAgg9
  z9 := Try.sizeOf9
  v9 := Try.zeroValue9
  t22 := Try.underlying66
  a22 := Try.isAgg66
  z22 := Try.sizeOf66
  v22 := Try.zeroValue66
  t25 := Try.underlying150
  a25 := Try.isAgg150
  z25 := Try.sizeOf150
  v25 := Try.zeroValue150
  t39 := Try.underlying187
  a39 := Try.isAgg187
  z39 := Try.sizeOf187
  v39 := Try.zeroValue187
  t45 := Try.underlying219
  a45 := Try.isAgg219
  z45 := Try.sizeOf219
  v45 := Try.zeroValue219
  t46 := Try.underlying220
  a46 := Try.isAgg220
  z46 := Try.sizeOf220
  v46 := Try.zeroValue220
  t50 := Try.underlying56
  a50 := Try.isAgg56
  z50 := Try.sizeOf56
  v50 := Try.zeroValue56
  t53 := Try.underlying226
  a53 := Try.isAgg226
  z53 := Try.sizeOf226
  v53 := Try.zeroValue226
  t55 := Try.underlying228
  a55 := Try.isAgg228
  z55 := Try.sizeOf228
  v55 := Try.zeroValue228
  t66 := Try.underlying241
  a66 := Try.isAgg241
  z66 := Try.sizeOf241
  v66 := Try.zeroValue241
  t70 := Try.underlying245
  a70 := Try.isAgg245
  z70 := Try.sizeOf245
  v70 := Try.zeroValue245
  t76 := Try.underlying253
  a76 := Try.isAgg253
  z76 := Try.sizeOf253
  v76 := Try.zeroValue253
  t77 := Try.underlying254
  a77 := Try.isAgg254
  z77 := Try.sizeOf254
  v77 := Try.zeroValue254 }
def Try.sortIxF_ren : Go.Shelf.Ren := ⟨fun | 189 => 127 | 125 => 167 | 257 => 184 | 128 => 209 | 129 => 210 | 294 => 222 | 295 => 223 | 296 => 224 | 297 => 225 | 298 => 226 | 299 => 227 | 216 => 228 | 300 => 229 | 301 => 230 | 328 => 243 | 329 => 235 | 330 => 236 | 331 => 244 | 332 => 245 | 215 => 168 | 343 => 250 | n => n, fun | 28 => 24 | 3 => 3 | 46 => 187 | 0 => 0 | 51 => 226 | 53 => 228 | 4 => 4 | 183 => 220 | 182 => 219 | 131 => 56 | 5 => 5 | 9 => 9 | 218 => 241 | 222 => 245 | 228 => 253 | 229 => 254 | n => n, fun | n => n⟩
theorem Try.sortIxF : Go.Proofs.Lays.n189 Try.prog Try.sortIxF_ren := {
  mixed := by kernel_rfl
  f125 := Try.func167.trans (congrArg some (by kernel_rfl))
  f128 := Try.func209.trans (congrArg some (by kernel_rfl))
  f129 := Try.func210.trans (congrArg some (by kernel_rfl))
  f189 := Try.func127.trans (congrArg some (by kernel_rfl))
  f215 := Try.func168.trans (congrArg some (by kernel_rfl))
  f216 := Try.func228.trans (congrArg some (by kernel_rfl))
  f257 := Try.func184.trans (congrArg some (by kernel_rfl))
  f294 := Try.func222.trans (congrArg some (by kernel_rfl))
  f295 := Try.func223.trans (congrArg some (by kernel_rfl))
  f296 := Try.func224.trans (congrArg some (by kernel_rfl))
  f297 := Try.func225.trans (congrArg some (by kernel_rfl))
  f298 := Try.func226.trans (congrArg some (by kernel_rfl))
  f299 := Try.func227.trans (congrArg some (by kernel_rfl))
  f300 := Try.func229.trans (congrArg some (by kernel_rfl))
  f301 := Try.func230.trans (congrArg some (by kernel_rfl))
  f328 := Try.func243.trans (congrArg some (by kernel_rfl))
  f329 := Try.func235.trans (congrArg some (by kernel_rfl))
  f330 := Try.func236.trans (congrArg some (by kernel_rfl))
  f331 := Try.func244.trans (congrArg some (by kernel_rfl))
  f332 := Try.func245.trans (congrArg some (by kernel_rfl))
  f343 := Try.func250.trans (congrArg some (by kernel_rfl))
  t0 := Try.underlying0
  a0 := Try.isAgg0
  z0 := Try.sizeOf0
  v0 := Try.zeroValue0
  t3 := Try.underlying3
  a3 := Try.isAgg3
  z3 := Try.sizeOf3
  v3 := Try.zeroValue3
  t4 := Try.underlying4
  a4 := Try.isAgg4
  z4 := Try.sizeOf4
  v4 := Try.zeroValue4
  t5 := Try.underlying5
  a5 := Try.isAgg5
  z5 := Try.sizeOf5
  v5 := Try.zeroValue5
  t9 := Try.underlying9
  a9 := Try.isAgg9
  z9 := Try.sizeOf9
  v9 := Try.zeroValue9
  t28 := Try.underlying24
  a28 := Try.isAgg24
  z28 := Try.sizeOf24
  v28 := Try.zeroValue24
  t46 := Try.underlying187
  a46 := Try.isAgg187
  z46 := Try.sizeOf187
  v46 := Try.zeroValue187
  t51 := Try.underlying226
  a51 := Try.isAgg226
  z51 := Try.sizeOf226
  v51 := Try.zeroValue226
  t53 := Try.underlying228
  a53 := Try.isAgg228
  z53 := Try.sizeOf228
  v53 := Try.zeroValue228
  t131 := Try.underlying56
  a131 := Try.isAgg56
  z131 := Try.sizeOf56
  v131 := Try.zeroValue56
  t182 := Try.underlying219
  a182 := Try.isAgg219
  z182 := Try.sizeOf219
  v182 := Try.zeroValue219
  t183 := Try.underlying220
  a183 := Try.isAgg220
  z183 := Try.sizeOf220
  v183 := Try.zeroValue220
  t218 := Try.underlying241
  a218 := Try.isAgg241
  z218 := Try.sizeOf241
  v218 := Try.zeroValue241
  t222 := Try.underlying245
  a222 := Try.isAgg245
  z222 := Try.sizeOf245
  v222 := Try.zeroValue245
  t228 := Try.underlying253
  a228 := Try.isAgg253
  z228 := Try.sizeOf253
  v228 := Try.zeroValue253
  t229 := Try.underlying254
  a229 := Try.isAgg254
  z229 := Try.sizeOf254
  v229 := Try.zeroValue254 }
end Go.Proofs
namespace Go.Sm
open Go.Proofs
theorem lay121 : SlLaysF0.n6 Try.prog Try.sortBillF_ren := Try.sortBillF
theorem ilay127 : Lays.n189 Try.prog Try.sortIxF_ren := Try.sortIxF
end Go.Sm
end
