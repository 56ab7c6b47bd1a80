/- The tables that a row lists are laid; the law PickText answers true. -/
import Derived.Test.YtenekpkjlgddnaaDoorP73
import Derived.Test.YtenekpkjlgddnaaDoorGO
import Derived.Lib.LaidTab
import Derived.LaidMore
set_option linter.unusedVariables false
set_option linter.unusedSimpArgs false
namespace Go.Proofs.YtenekpkjlgddnaaDoor
open Go.Sx Go.RowKit

theorem tabs_of {W : World} (h : laidMetH Tryd.prog [("math/bits.deBruijn32tab", Rows.laid_math_bits_deBruijn32tab), ("math/bits.deBruijn64tab", Rows.laid_math_bits_deBruijn64tab), ("internal/strconv.uint64pow10", Rows.laid_internal_strconv_uint64pow10)] W) : Tabs W := by
  rw [MakeChecks.laidMetH_plain _ _ _ (by kernel_rfl)] at h
  obtain ⟨ps, ⟨_, _, _, _, _, _, _, _, _, _, ⟨_, _, _, _, _, _, _, _, _, _, ⟨g, t, cs, fuel, p, q, hg, ht, hv, hd, _, _⟩, _⟩, _⟩, _⟩ := h
  obtain rfl := Option.some.inj ((show Tryd.prog.globalNamed "internal/strconv.uint64pow10" = some 1 by kernel_rfl).symm.trans hg)
  obtain rfl := Option.some.inj ((show (Tryd.prog.globals[1]?).map (·.type) = some 109 by kernel_rfl).symm.trans ht)
  have e := Lib.cells_of_tab (zs := Lib.pow10Tab) (k := .u64) (show Tryd.prog.underlying 109 = some (.array 20 102) by kernel_rfl) (show Tryd.prog.underlying 102 = some (.int .u64) by kernel_rfl) (by kernel_rfl) (by kernel_rfl) hd
  unfold World.var? at hv
  rw [hg] at hv
  simp only [Option.bind_some] at hv
  split at hv
  · rename_i cs' ty fr hh
    obtain rfl := Option.some.inj hv
    intro x hx
    obtain rfl := List.mem_singleton.1 hx
    refine ⟨ty, fr, ?_⟩
    rw [show W.heap[1]? = _ from hh]
    congr 2
    exact (congrArg List.toArray e)
  · cases hv

theorem law_PickText (p : Pick) (hw : p.wf) : Ret Tryd.prog 3 [.agg p.e] [.one (B true)] :=
  laws_FnExactPickText_p1 _ _ _ _ _ _ _ _ _ _ _ ⟨laws_toPick_ret p, spec_PickText_ret p hw, laws_toPick_ret p, impl_PickText_ret p hw, by simp, trivial⟩
end Go.Proofs.YtenekpkjlgddnaaDoor
