/-
  DERIVED: THE SHELF's CONTRACTS AT THIS DUMP, IN PLAIN WORDS (tools/lay-plain.mjs out of 'YtenekpkjlgddnaaDoorS2.lean', which tools/lay-shelf.mjs wrote): THE SAME DECLARATIONS UNDER THE SAME NAMES: 'import', 'namespace', 'open', 'def', 'theorem' AND NOTHING ELSE: no command of the shelf's: FOR A HAND-IN. Each laying: the table of numbers ('.._ren') and one theorem, a field a fact of the dump's own or the kernel's comparison; each contract: ONE APPLICATION.
-/
import Derived.Shelf.Strings.OnBuilder
import Derived.Ground.NamesProg
import Derived.Test.YtenekpkjlgddnaaDoorRows
set_option linter.unusedVariables false
set_option linter.unusedSimpArgs false
namespace Go.Proofs
open Go.Shelf
def Tryd.join_ren:Go.Shelf.Ren:=⟨fun | 156=>27 | 165=>38 | 166=>39 | 169=>40 | 240=>46 | 241=>47 | 276=>50 | 277=>51 | n=>n,fun | 31=>46 | 9=>9 | 3=>3 | 4=>4 | 0=>0 | 20=>20 | 72=>84 | 76=>88 | 70=>82 | 37=>67 | 75=>87 | 127=>95 | 164=>98 | 5=>5 | 80=>90 | n=>n,fun | n=>n⟩
theorem Tryd.join:Go.Proofs.Lays.n156 prog Tryd.join_ren:={
 mixed:=by kernel_rfl
 f156:=func27.trans (congrArg some (by kernel_rfl))
 f165:=func38.trans (congrArg some (by kernel_rfl))
 f166:=func39.trans (congrArg some (by kernel_rfl))
 f169:=func40.trans (congrArg some (by kernel_rfl))
 f240:=func46.trans (congrArg some (by kernel_rfl))
 f241:=func47.trans (congrArg some (by kernel_rfl))
 f276:=func50.trans (congrArg some (by kernel_rfl))
 f277:=func51.trans (congrArg some (by kernel_rfl))
 t0:=Tryd.underlying0
 a0:=Tryd.isAgg0
 z0:=Tryd.sizeOf0
 v0:=Tryd.zeroValue0
 t3:=Tryd.underlying3
 a3:=Tryd.isAgg3
 z3:=Tryd.sizeOf3
 v3:=Tryd.zeroValue3
 t4:=Tryd.underlying4
 a4:=Tryd.isAgg4
 z4:=Tryd.sizeOf4
 v4:=Tryd.zeroValue4
 t9:=Tryd.underlying9
 a9:=Tryd.isAgg9
 z9:=Tryd.sizeOf9
 v9:=Tryd.zeroValue9
 t20:=Tryd.underlying20
 a20:=Tryd.isAgg20
 z20:=Tryd.sizeOf20
 v20:=Tryd.zeroValue20
 t31:=Tryd.underlying46
 a31:=Tryd.isAgg46
 z31:=Tryd.sizeOf46
 v31:=Tryd.zeroValue46
 t37:=Tryd.underlying67
 a37:=Tryd.isAgg67
 z37:=Tryd.sizeOf67
 v37:=Tryd.zeroValue67
 t70:=Tryd.underlying82
 a70:=Tryd.isAgg82
 z70:=Tryd.sizeOf82
 v70:=Tryd.zeroValue82
 t72:=Tryd.underlying84
 a72:=Tryd.isAgg84
 z72:=Tryd.sizeOf84
 v72:=Tryd.zeroValue84
 t75:=Tryd.underlying87
 a75:=Tryd.isAgg87
 z75:=Tryd.sizeOf87
 v75:=Tryd.zeroValue87
 t76:=Tryd.underlying88
 a76:=Tryd.isAgg88
 z76:=Tryd.sizeOf88
 v76:=Tryd.zeroValue88
 t127:=Tryd.underlying95
 a127:=Tryd.isAgg95
 z127:=Tryd.sizeOf95
 v127:=Tryd.zeroValue95
 t164:=Tryd.underlying98
 a164:=Tryd.isAgg98
 z164:=Tryd.sizeOf98
 v164:=Tryd.zeroValue98 }
end Go.Proofs
