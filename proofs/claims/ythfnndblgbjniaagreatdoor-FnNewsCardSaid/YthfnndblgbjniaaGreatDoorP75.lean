import Derived.Test.YthfnndblgbjniaaGreatDoorP73
import Derived.Test.YthfnndblgbjniaaGreatDoorGO
import Derived.Lib.LaidTab
import Derived.LaidMore
set_option linter.unusedVariables false
set_option linter.unusedSimpArgs false
namespace Go.Proofs.YthfnndblgbjniaaGreatDoor
open Go.Sx Go.RowKit Go.Proofs.Tryz
theorem ah2{W : World}(h : laidMetH prog [("math/bits.deBruijn32tab", Rows.laid_math_bits_deBruijn32tab), ("math/bits.deBruijn64tab", Rows.laid_math_bits_deBruijn64tab), ("internal/strconv.uint64pow10", Rows.laid_internal_strconv_uint64pow10)] W) : me W := by
 rw[MakeChecks.laidMetH_plain _ _ _ (by kernel_rfl)]at h;obtain⟨ct,⟨_,_,_,_,_,_,_,_,_,_,⟨_,_,_,_,_,_,_,_,_,_,⟨g,t,cs,gl,p,q,ay,bZ,br,aF,_,_⟩,_⟩,_⟩,_⟩:=h;obtain rfl := fB ((show prog.globalNamed "internal/strconv.uint64pow10" = some 1 by kernel_rfl).symm.trans ay);obtain rfl:=fB ((show (prog.globals[1]?).map (·.type)=some 230 by kernel_rfl).symm.trans bZ);have e:=Lib.cells_of_tab (zs:=Lib.pow10Tab) (k:=.u64) (show prog.underlying 230=some (.array 20 217) by kernel_rfl) (show prog.underlying 217=some (.int .u64) by kernel_rfl) (by kernel_rfl) (by kernel_rfl) aF;unfold World.var? at br;rw[ay]at br;simp only[l8]at br;split at br
 ·rename_i aso ty cF bH;obtain rfl:=fB br;intro x ao;obtain rfl:=List.mem_singleton.1 ao;refine⟨ty,cF,?_⟩;rw[show W.heap[1]?=_ from bH]
  congr 2
  exact (congrArg List.toArray e)
 cases br
