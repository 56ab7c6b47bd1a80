/- The laws RoundsDone, AllDone, EpochsDone, OwnersOk answer true. -/
import Derived.Test.YtcdpehhhkfdoaaaP3
import Derived.Test.YtcdpehhhkfdoaaaGH
set_option linter.unusedVariables false
set_option linter.unusedSimpArgs false
namespace Go.Proofs.Ytcdpehhhkfdoaaa
open Go.Sx Go.RowKit

theorem law_RoundsDone (c : Cluster) (e : Int) (hw : c.wf) : Ret Try.prog 7 [.agg c.e, .one (I e)] [.one (B true)] := by
  have r := laws_szCluster_ret c 1048576 (by omega) (by omega) hw
  by_cases h : c.sz ≤ 1048576
  · rw [leftOf_ok (by omega)] at r
    have t := laws_toCluster_ret c h
    exact laws_FnExactRoundsDone_p3 _ _ _ _ _ _ _ _ _ _ _ _ _ _ _ _ _ _ _ _ _ _ _ _ _ _ _ _ _ _ _ _ _ ⟨r, by simp only [decide_eq_false_iff_not]; omega, t, spec_RoundsDone_ret c e h, t, impl_RoundsDone_ret c e h, by simp, t, laws_eqCluster_ret' c c true (by simp) h, rfl, trivial⟩
  · rw [leftOf_neg (by omega)] at r
    exact laws_FnExactRoundsDone_p0 _ _ _ _ _ _ _ _ _ ⟨r, rfl, trivial⟩
theorem law_AllDone (c : Cluster) (e : Int) (hw : c.wf) : Ret Try.prog 8 [.agg c.e, .one (I e)] [.one (B true)] := by
  have r := laws_szCluster_ret c 1048576 (by omega) (by omega) hw
  by_cases h : c.sz ≤ 1048576
  · rw [leftOf_ok (by omega)] at r
    have t := laws_toCluster_ret c h
    exact laws_FnExactAllDone_p3 _ _ _ _ _ _ _ _ _ _ _ _ _ _ _ _ _ _ _ _ _ _ _ _ _ _ _ _ _ _ _ _ _ ⟨r, by simp only [decide_eq_false_iff_not]; omega, t, spec_AllDone_ret c e h, t, impl_AllDone_ret c e h, by simp, t, laws_eqCluster_ret' c c true (by simp) h, rfl, trivial⟩
  · rw [leftOf_neg (by omega)] at r
    exact laws_FnExactAllDone_p0 _ _ _ _ _ _ _ _ _ ⟨r, rfl, trivial⟩

theorem law_EpochsDone (c : Cluster) (hw : c.wf) : Ret Try.prog 10 [.agg c.e] [.one (B true)] := by
  have r := laws_szCluster_ret c 1048576 (by omega) (by omega) hw
  by_cases h : c.sz ≤ 1048576
  · rw [leftOf_ok (by omega)] at r
    have t := laws_toCluster_ret c h
    exact laws_FnExactEpochsDone_p3 _ _ _ _ _ _ _ _ _ _ _ _ _ _ _ _ _ _ _ _ _ _ _ _ _ _ _ _ _ _ _ _ ⟨r, by simp only [decide_eq_false_iff_not]; omega, t, spec_EpochsDone_ret c h, t, impl_EpochsDone_ret c h, by simp, t, laws_eqCluster_ret' c c true (by simp) h, rfl, trivial⟩
  · rw [leftOf_neg (by omega)] at r
    exact laws_FnExactEpochsDone_p0 _ _ _ _ _ _ _ _ ⟨r, rfl, trivial⟩

theorem law_OwnersOk (c : Cluster) (hw : c.wf) : Ret Try.prog 12 [.agg c.e] [.one (B true)] := by
  have r := laws_szCluster_ret c 1048576 (by omega) (by omega) hw
  by_cases h : c.sz ≤ 1048576
  · rw [leftOf_ok (by omega)] at r
    have t := laws_toCluster_ret c h
    exact laws_FnExactOwnersOk_p3 _ _ _ _ _ _ _ _ _ _ _ _ _ _ _ _ _ _ _ _ _ _ _ _ _ _ _ _ _ _ _ _ ⟨r, by simp only [decide_eq_false_iff_not]; omega, t, spec_OwnersOk_ret c h hw, t, impl_OwnersOk_ret c h hw, by simp, t, laws_eqCluster_ret' c c true (by simp) h, rfl, trivial⟩
  · rw [leftOf_neg (by omega)] at r
    exact laws_FnExactOwnersOk_p0 _ _ _ _ _ _ _ _ ⟨r, rfl, trivial⟩
end Go.Proofs.Ytcdpehhhkfdoaaa
