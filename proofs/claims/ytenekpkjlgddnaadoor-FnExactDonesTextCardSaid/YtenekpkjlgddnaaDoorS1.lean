/-
  DERIVED: THE SHELF's CONTRACTS AT THIS DUMP, IN PLAIN WORDS (tools/lay-plain.mjs out of 'YtenekpkjlgddnaaDoorS1.lean', which tools/lay-shelf.mjs wrote): THE SAME DECLARATIONS UNDER THE SAME NAMES: 'import', 'namespace', 'open', 'def', 'theorem' AND NOTHING ELSE: no command of the shelf's: FOR A HAND-IN. Each laying: the table of numbers ('.._ren') and one theorem, a field a fact of the dump's own or the kernel's comparison; each contract: ONE APPLICATION.
-/
import Derived.Shelf.Strconv.Itoa3
import Derived.Ground.NamesProg
import Derived.Test.YtenekpkjlgddnaaDoorRows
set_option linter.unusedVariables false
set_option linter.unusedSimpArgs false
namespace Go.Proofs
open Go.Shelf
def Tryd.itoa_ren:Go.Shelf.Ren:=⟨fun | 171=>34 | 243=>44 | 246=>49 | 283=>52 | 284=>53 | 285=>54 | 286=>55 | 129=>57 | 317=>56 | 318=>58 | 319=>59 | 320=>60 | 337=>61 | 338=>62 | n=>n,fun | 3=>3 | 9=>9 | 2=>2 | 4=>4 | 171=>101 | 0=>0 | 53=>102 | 37=>67 | 5=>5 | 173=>105 | 212=>109 | 51=>110 | 20=>20 | 213=>111 | 46=>113 | 232=>116 | 233=>117 | n=>n,fun | 17=>1 | 18=>2 | 19=>3 | n=>n⟩
theorem Tryd.itoa:Go.Proofs.LaysM.n171 prog Tryd.itoa_ren:={
 mixed:=by kernel_rfl
 f129:=func57.trans (congrArg some (by kernel_rfl))
 f171:=func34.trans (congrArg some (by kernel_rfl))
 f243:=func44.trans (congrArg some (by kernel_rfl))
 f246:=func49.trans (congrArg some (by kernel_rfl))
 f283:=func52.trans (congrArg some (by kernel_rfl))
 f284:=func53.trans (congrArg some (by kernel_rfl))
 f285:=func54.trans (congrArg some (by kernel_rfl))
 f286:=func55.trans (congrArg some (by kernel_rfl))
 f317:=func56.trans (congrArg some (by kernel_rfl))
 f318:=func58.trans (congrArg some (by kernel_rfl))
 f319:=func59.trans (congrArg some (by kernel_rfl))
 f320:=func60.trans (congrArg some (by kernel_rfl))
 f337:=func61.trans (congrArg some (by kernel_rfl))
 f338:=func62.trans (congrArg some (by kernel_rfl))
 t0:=Tryd.underlying0
 a0:=Tryd.isAgg0
 z0:=Tryd.sizeOf0
 v0:=Tryd.zeroValue0
 t2:=Tryd.underlying2
 a2:=Tryd.isAgg2
 z2:=Tryd.sizeOf2
 v2:=Tryd.zeroValue2
 t3:=Tryd.underlying3
 a3:=Tryd.isAgg3
 z3:=Tryd.sizeOf3
 v3:=Tryd.zeroValue3
 t4:=Tryd.underlying4
 a4:=Tryd.isAgg4
 z4:=Tryd.sizeOf4
 v4:=Tryd.zeroValue4
 t5:=Tryd.underlying5
 a5:=Tryd.isAgg5
 z5:=Tryd.sizeOf5
 v5:=Tryd.zeroValue5
 t9:=Tryd.underlying9
 a9:=Tryd.isAgg9
 z9:=Tryd.sizeOf9
 v9:=Tryd.zeroValue9
 t20:=Tryd.underlying20
 a20:=Tryd.isAgg20
 z20:=Tryd.sizeOf20
 v20:=Tryd.zeroValue20
 t37:=Tryd.underlying67
 a37:=Tryd.isAgg67
 z37:=Tryd.sizeOf67
 v37:=Tryd.zeroValue67
 t46:=Tryd.underlying113
 a46:=Tryd.isAgg113
 z46:=Tryd.sizeOf113
 v46:=Tryd.zeroValue113
 t51:=Tryd.underlying110
 a51:=Tryd.isAgg110
 z51:=Tryd.sizeOf110
 v51:=Tryd.zeroValue110
 t53:=Tryd.underlying102
 a53:=Tryd.isAgg102
 z53:=Tryd.sizeOf102
 v53:=Tryd.zeroValue102
 t171:=Tryd.underlying101
 a171:=Tryd.isAgg101
 z171:=Tryd.sizeOf101
 v171:=Tryd.zeroValue101
 t173:=Tryd.underlying105
 a173:=Tryd.isAgg105
 z173:=Tryd.sizeOf105
 v173:=Tryd.zeroValue105
 t212:=Tryd.underlying109
 a212:=Tryd.isAgg109
 z212:=Tryd.sizeOf109
 v212:=Tryd.zeroValue109
 t213:=Tryd.underlying111
 a213:=Tryd.isAgg111
 z213:=Tryd.sizeOf111
 t232:=Tryd.underlying116
 a232:=Tryd.isAgg116
 z232:=Tryd.sizeOf116
 v232:=Tryd.zeroValue116
 t233:=Tryd.underlying117
 a233:=Tryd.isAgg117
 z233:=Tryd.sizeOf117
 v233:=Tryd.zeroValue117
 g17:=by kernel_rfl
 g18:=by kernel_rfl
 g19:=by kernel_rfl
 i0:=by kernel_rfl
 i2:=by kernel_rfl
 i3:=by kernel_rfl
 i4:=by kernel_rfl
 i5:=by kernel_rfl
 i9:=by kernel_rfl
 i20:=by kernel_rfl
 i37:=by kernel_rfl
 i46:=by kernel_rfl
 i51:=by kernel_rfl
 i53:=by kernel_rfl
 i171:=by kernel_rfl
 i173:=by kernel_rfl
 i212:=by kernel_rfl
 i232:=by kernel_rfl
 i233:=by kernel_rfl
 m17:=by kernel_rfl
 m18:=by kernel_rfl
 m19:=by kernel_rfl }
end Go.Proofs
