/- The contract of slices.SortFunc at this seat (layings in plain words, written by lay-plain.mjs). -/
import Derived.Shelf.SlSortCmp.NoneTotal
import Derived.Ground.SlsfProg
import Derived.Test.YtialmplmfcahpaaGreatRows
set_option linter.unusedVariables false
set_option linter.unusedSimpArgs false
namespace Go.Proofs
open Go.Shelf
def Tryz.sortRecord_ren : Go.Shelf.Ren := ⟨fun | 6 => 262 | 15 => 307 | 14 => 306 | 28 => 324 | 29 => 325 | 20 => 316 | 21 => 317 | 22 => 318 | 23 => 319 | 24 => 320 | 25 => 321 | 26 => 322 | 27 => 323 | 46 => 328 | 47 => 329 | 48 => 330 | 49 => 331 | 50 => 332 | 57 => 335 | n => n, fun | 22 => 34 | 24 => 89 | 25 => 255 | 3 => 3 | 39 => 282 | 0 => 0 | 53 => 297 | 55 => 299 | 4 => 4 | 46 => 291 | 45 => 290 | 50 => 243 | 5 => 5 | 9 => 9 | 66 => 300 | 70 => 304 | 76 => 307 | 77 => 308 | n => n, fun | n => n⟩
theorem Tryz.sortRecord : Go.Proofs.SlLaysF0.n6 Tryz.prog Tryz.sortRecord_ren := {
  mixed := by kernel_rfl
  f6 := ⟨Tryz.f262.name, by decide, Tryz.func262.trans (congrArg some (by kernel_rfl))⟩
  f14 := ⟨Tryz.f306.name, by decide, Tryz.func306.trans (congrArg some (by kernel_rfl))⟩
  f15 := Tryz.func307.trans (congrArg some (by kernel_rfl))
  f20 := ⟨Tryz.f316.name, by decide, Tryz.func316.trans (congrArg some (by kernel_rfl))⟩
  f21 := ⟨Tryz.f317.name, by decide, Tryz.func317.trans (congrArg some (by kernel_rfl))⟩
  f22 := ⟨Tryz.f318.name, by decide, Tryz.func318.trans (congrArg some (by kernel_rfl))⟩
  f23 := ⟨Tryz.f319.name, by decide, Tryz.func319.trans (congrArg some (by kernel_rfl))⟩
  f24 := ⟨Tryz.f320.name, by decide, Tryz.func320.trans (congrArg some (by kernel_rfl))⟩
  f25 := ⟨Tryz.f321.name, by decide, Tryz.func321.trans (congrArg some (by kernel_rfl))⟩
  f26 := ⟨Tryz.f322.name, by decide, Tryz.func322.trans (congrArg some (by kernel_rfl))⟩
  f27 := ⟨Tryz.f323.name, by decide, Tryz.func323.trans (congrArg some (by kernel_rfl))⟩
  f28 := Tryz.func324.trans (congrArg some (by kernel_rfl))
  f29 := Tryz.func325.trans (congrArg some (by kernel_rfl))
  f46 := ⟨Tryz.f328.name, by decide, Tryz.func328.trans (congrArg some (by kernel_rfl))⟩
  f47 := Tryz.func329.trans (congrArg some (by kernel_rfl))
  f48 := Tryz.func330.trans (congrArg some (by kernel_rfl))
  f49 := ⟨Tryz.f331.name, by decide, Tryz.func331.trans (congrArg some (by kernel_rfl))⟩
  f50 := ⟨Tryz.f332.name, by decide, Tryz.func332.trans (congrArg some (by kernel_rfl))⟩
  f57 := ⟨Tryz.f335.name, by decide, Tryz.func335.trans (congrArg some (by kernel_rfl))⟩
  t0 := Tryz.underlying0
  a0 := Tryz.isAgg0
  z0 := Tryz.sizeOf0
  v0 := Tryz.zeroValue0
  t3 := Tryz.underlying3
  a3 := Tryz.isAgg3
  z3 := Tryz.sizeOf3
  v3 := Tryz.zeroValue3
  t4 := Tryz.underlying4
  a4 := Tryz.isAgg4
  z4 := Tryz.sizeOf4
  v4 := Tryz.zeroValue4
  t5 := Tryz.underlying5
  a5 := Tryz.isAgg5
  z5 := Tryz.sizeOf5
  v5 := Tryz.zeroValue5
  t9 := Tryz.underlying9
  a9 := Tryz.isAgg9
  z9 := Tryz.sizeOf9
  v9 := Tryz.zeroValue9
  t22 := Tryz.underlying34
  a22 := Tryz.isAgg34
  z22 := Tryz.sizeOf34
  v22 := Tryz.zeroValue34
  t25 := Tryz.underlying255
  a25 := Tryz.isAgg255
  z25 := Tryz.sizeOf255
  v25 := Tryz.zeroValue255
  t39 := Tryz.underlying282
  a39 := Tryz.isAgg282
  z39 := Tryz.sizeOf282
  v39 := Tryz.zeroValue282
  t45 := Tryz.underlying290
  a45 := Tryz.isAgg290
  z45 := Tryz.sizeOf290
  v45 := Tryz.zeroValue290
  t46 := Tryz.underlying291
  a46 := Tryz.isAgg291
  z46 := Tryz.sizeOf291
  v46 := Tryz.zeroValue291
  t50 := Tryz.underlying243
  a50 := Tryz.isAgg243
  z50 := Tryz.sizeOf243
  v50 := Tryz.zeroValue243
  t53 := Tryz.underlying297
  a53 := Tryz.isAgg297
  z53 := Tryz.sizeOf297
  v53 := Tryz.zeroValue297
  t55 := Tryz.underlying299
  a55 := Tryz.isAgg299
  z55 := Tryz.sizeOf299
  v55 := Tryz.zeroValue299
  t66 := Tryz.underlying300
  a66 := Tryz.isAgg300
  z66 := Tryz.sizeOf300
  v66 := Tryz.zeroValue300
  t70 := Tryz.underlying304
  a70 := Tryz.isAgg304
  z70 := Tryz.sizeOf304
  v70 := Tryz.zeroValue304
  t76 := Tryz.underlying307
  a76 := Tryz.isAgg307
  z76 := Tryz.sizeOf307
  v76 := Tryz.zeroValue307
  t77 := Tryz.underlying308
  a77 := Tryz.isAgg308
  z77 := Tryz.sizeOf308
  v77 := Tryz.zeroValue308 }
end Go.Proofs
