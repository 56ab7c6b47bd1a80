/- The law AloneCapped answers true. -/
import Derived.Test.YtenekpkjlgddnaaP22
import Derived.Test.YtenekpkjlgddnaaT5
import Derived.Test.YtenekpkjlgddnaaT2
import Derived.Test.YtenekpkjlgddnaaGO
set_option linter.unusedVariables false
set_option linter.unusedSimpArgs false
namespace Go.Proofs.Ytenekpkjlgddnaa
open Go.Sx Go.RowKit

theorem law_AloneCapped (g : Graph) (xs : List Record) (e : Int) (hw : g.wf) (hx : (xs.length : Int) ≤ 9223372036854775807) (_ : ∀ x ∈ xs, x.wf) : Ret Try.prog 3 [.agg g.e, .one (.sl 5 (xs.map Record.e)), .one (I e)] [.one (B true)] := by
  have s := laws_szGraph_ret g 1048576 (by omega) (by omega) hw
  by_cases h : g.sz ≤ 1048576
  · rw [leftOf_ok (by omega)] at s
    have s2 := laws_szRecordS_ret xs (1048576 - g.sz) (by omega) (by omega) hx
    by_cases h2 : xs.length + g.sz ≤ 1048576
    · rw [leftOf_ok (by omega)] at s2
      have hl : xs.length ≤ 8388608 := by omega
      have t := laws_toGraph_ret g (by omega)
      have tr := laws_toRecordS_ret xs hl
      exact laws_FnExactAloneCapped_p5 _ _ _ _ _ _ _ _ _ _ _ _ _ _ _ _ _ _ _ _ _ _ _ ⟨s, dF (by omega), s2, dF (by omega), t, tr, spec_AloneCapped_ret g xs e (by omega) hl, t, tr, impl_AloneCapped_ret g xs e (by omega) hl, by simp, t, laws_eqGraph_ret' g g true (by simp) (by omega), rfl, tr, laws_eqRecordS_ret' xs _ true (decide_eq_true rfl) hl, rfl, trivial⟩
    · rw [leftOf_neg (by omega)] at s2
      exact laws_FnExactAloneCapped_p1 _ _ _ _ _ _ _ ⟨s, dF (by omega), s2, rfl, trivial⟩
  · rw [leftOf_neg (by omega)] at s
    exact laws_FnExactAloneCapped_p0 _ _ _ _ _ _ ⟨s, rfl, trivial⟩
end Go.Proofs.Ytenekpkjlgddnaa
