/- The contract of slices.SortFunc at records, as the shelf lays it (printed by the kit's lay-plain.mjs). -/
import Derived.Shelf.SlSortCmp.NoneTotal
import Derived.Ground.SlsfProg
import Derived.Test.YtdkobdhckkjmeaaGreatRows
set_option linter.unusedVariables false
set_option linter.unusedSimpArgs false
namespace Go.Proofs
open Go.Shelf
def Tryz.sortRecord_ren:Go.Shelf.Ren:=⟨fun | 6=>325 | 15=>341 | 14=>340 | 28=>356 | 29=>357 | 20=>348 | 21=>349 | 22=>350 | 23=>351 | 24=>352 | 25=>353 | 26=>354 | 27=>355 | 46=>360 | 47=>361 | 48=>362 | 49=>363 | 50=>364 | 57=>366 | n=>n,fun | 22=>27 | 24=>68 | 25=>227 | 3=>3 | 39=>240 | 0=>0 | 53=>268 | 55=>270 | 4=>4 | 46=>262 | 45=>261 | 50=>246 | 5=>5 | 9=>9 | 66=>272 | 70=>276 | 76=>278 | 77=>279 | n=>n,fun | n=>n⟩
theorem Tryz.sortRecord:Go.Proofs.SlLaysF0.n6 prog Tryz.sortRecord_ren:={
 mixed:=by kernel_rfl
 f6:=⟨f325.name,by decide,func325.trans (congrArg some (by kernel_rfl))⟩
 f14:=⟨f340.name,by decide,func340.trans (congrArg some (by kernel_rfl))⟩
 f15:=func341.trans (congrArg some (by kernel_rfl))
 f20:=⟨f348.name,by decide,func348.trans (congrArg some (by kernel_rfl))⟩
 f21:=⟨f349.name,by decide,func349.trans (congrArg some (by kernel_rfl))⟩
 f22:=⟨f350.name,by decide,func350.trans (congrArg some (by kernel_rfl))⟩
 f23:=⟨f351.name,by decide,func351.trans (congrArg some (by kernel_rfl))⟩
 f24:=⟨f352.name,by decide,func352.trans (congrArg some (by kernel_rfl))⟩
 f25:=⟨f353.name,by decide,func353.trans (congrArg some (by kernel_rfl))⟩
 f26:=⟨f354.name,by decide,func354.trans (congrArg some (by kernel_rfl))⟩
 f27:=⟨f355.name,by decide,func355.trans (congrArg some (by kernel_rfl))⟩
 f28:=func356.trans (congrArg some (by kernel_rfl))
 f29:=func357.trans (congrArg some (by kernel_rfl))
 f46:=⟨f360.name,by decide,func360.trans (congrArg some (by kernel_rfl))⟩
 f47:=func361.trans (congrArg some (by kernel_rfl))
 f48:=func362.trans (congrArg some (by kernel_rfl))
 f49:=⟨f363.name,by decide,func363.trans (congrArg some (by kernel_rfl))⟩
 f50:=⟨f364.name,by decide,func364.trans (congrArg some (by kernel_rfl))⟩
 f57:=⟨f366.name,by decide,func366.trans (congrArg some (by kernel_rfl))⟩
 t0:=Tryz.underlying0
 a0:=Tryz.isAgg0
 z0:=Tryz.sizeOf0
 v0:=Tryz.zeroValue0
 t3:=Tryz.underlying3
 a3:=Tryz.isAgg3
 z3:=Tryz.sizeOf3
 v3:=Tryz.zeroValue3
 t4:=Tryz.underlying4
 a4:=Tryz.isAgg4
 z4:=Tryz.sizeOf4
 v4:=Tryz.zeroValue4
 t5:=Tryz.underlying5
 a5:=Tryz.isAgg5
 z5:=Tryz.sizeOf5
 v5:=Tryz.zeroValue5
 t9:=Tryz.underlying9
 a9:=Tryz.isAgg9
 z9:=Tryz.sizeOf9
 v9:=Tryz.zeroValue9
 t22:=Tryz.underlying27
 a22:=Tryz.isAgg27
 z22:=Tryz.sizeOf27
 v22:=Tryz.zeroValue27
 t25:=Tryz.underlying227
 a25:=Tryz.isAgg227
 z25:=Tryz.sizeOf227
 v25:=Tryz.zeroValue227
 t39:=Tryz.underlying240
 a39:=Tryz.isAgg240
 z39:=Tryz.sizeOf240
 v39:=Tryz.zeroValue240
 t45:=Tryz.underlying261
 a45:=Tryz.isAgg261
 z45:=Tryz.sizeOf261
 v45:=Tryz.zeroValue261
 t46:=Tryz.underlying262
 a46:=Tryz.isAgg262
 z46:=Tryz.sizeOf262
 v46:=Tryz.zeroValue262
 t50:=Tryz.underlying246
 a50:=Tryz.isAgg246
 z50:=Tryz.sizeOf246
 v50:=Tryz.zeroValue246
 t53:=Tryz.underlying268
 a53:=Tryz.isAgg268
 z53:=Tryz.sizeOf268
 v53:=Tryz.zeroValue268
 t55:=Tryz.underlying270
 a55:=Tryz.isAgg270
 z55:=Tryz.sizeOf270
 v55:=Tryz.zeroValue270
 t66:=Tryz.underlying272
 a66:=Tryz.isAgg272
 z66:=Tryz.sizeOf272
 v66:=Tryz.zeroValue272
 t70:=Tryz.underlying276
 a70:=Tryz.isAgg276
 z70:=Tryz.sizeOf276
 v70:=Tryz.zeroValue276
 t76:=Tryz.underlying278
 a76:=Tryz.isAgg278
 z76:=Tryz.sizeOf278
 v76:=Tryz.zeroValue278
 t77:=Tryz.underlying279
 a77:=Tryz.isAgg279
 z77:=Tryz.sizeOf279
 v77:=Tryz.zeroValue279 }
end Go.Proofs
