/- The tables that a row lists are laid; the law PickText answers true. -/
import Derived.Test.YtenekpkjlgddnaaDoorP73
import Derived.Test.YtenekpkjlgddnaaDoorGO
import Derived.Lib.LaidTab
import Derived.LaidMore
set_option linter.unusedVariables false
set_option linter.unusedSimpArgs false
namespace Go.Proofs.YtenekpkjlgddnaaDoor
open Go.Sx Go.RowKit Go.Proofs.Tryd
theorem qlB{W : World}(h : laidMetH prog [("math/bits.deBruijn32tab", Rows.laid_math_bits_deBruijn32tab), ("math/bits.deBruijn64tab", Rows.laid_math_bits_deBruijn64tab), ("internal/strconv.uint64pow10", Rows.laid_internal_strconv_uint64pow10)] W) : Tabs W := by
 rw[MakeChecks.laidMetH_plain _ _ _ (by kernel_rfl)]at h
 obtain⟨ps,⟨_,_,_,_,_,_,_,_,_,_,⟨_,_,_,_,_,_,_,_,_,_,⟨g,t,cs,fuel,p,q,hg,ht,hv,hd,_,_⟩,_⟩,_⟩,_⟩:=h
 obtain rfl := zx ((show prog.globalNamed "internal/strconv.uint64pow10" = some 1 by kernel_rfl).symm.trans hg)
 obtain rfl:=zx ((show (prog.globals[1]?).map (·.type)=some 109 by kernel_rfl).symm.trans ht)
 have e:=Lib.cells_of_tab (zs:=Lib.pow10Tab) (k:=.u64) (show prog.underlying 109=some (.array 20 102) by kernel_rfl) (show prog.underlying 102=some (.int .u64) by kernel_rfl) (by kernel_rfl) (by kernel_rfl) hd
 unfold World.var? at hv
 rw[hg]at hv
 simp only[zan]at hv
 split at hv
 ·rename_i cs' ty fr hh
  obtain rfl:=zx hv
  intro x hx
  obtain rfl:=List.mem_singleton.1 hx
  refine⟨ty,fr,?_⟩
  rw[show W.heap[1]?=_ from hh]
  congr 2
  exact (congrArg List.toArray e)
 ·cases hv
end Go.Proofs.YtenekpkjlgddnaaDoor
