/- The laws DoneOf, CreditsIn, CreditsOk, SumsOk answer true. -/
import Derived.Test.YtcdpehhhkfdoaaaP1
import Derived.Test.YtcdpehhhkfdoaaaGE
set_option linter.unusedVariables false
set_option linter.unusedSimpArgs false
namespace Go.Proofs.Ytcdpehhhkfdoaaa
open Go.Sx Go.RowKit

theorem law_DoneOf (x : Worker) (e : Int) (hw : x.wf) : Ret Try.prog 4 [.agg x.e, .one (I e)] [.one (B true)] := by
  have r := laws_szWorker_ret x 1048576 (by omega) (by omega) hw
  by_cases h : x.sz ≤ 1048576
  · rw [leftOf_ok (by omega)] at r
    have t := laws_toWorker_ret x h
    exact laws_FnExactDoneOf_p4 _ _ _ _ _ _ _ _ _ _ _ _ _ _ _ _ _ _ _ _ _ _ _ _ _ _ _ _ _ _ _ _ _ _ _ _ _ _ _ _ _ _ ⟨r, by simp only [decide_eq_false_iff_not]; omega, t, spec_DoneOf_ret x e h, t, impl_DoneOf_ret x e h, laws_eqDone_ret' _ _ true (by simp), rfl, by simp, t, laws_eqWorker_ret' x x true (by simp) h, rfl, trivial⟩
  · rw [leftOf_neg (by omega)] at r
    exact laws_FnExactDoneOf_p0 _ _ _ _ _ _ _ _ _ _ ⟨r, rfl, trivial⟩

theorem law_CreditsIn (c : Cluster) (hw : c.wf) : Ret Try.prog 5 [.agg c.e] [.one (B true)] := by
  have r := laws_szCluster_ret c 1048576 (by omega) (by omega) hw
  by_cases h : c.sz ≤ 1048576
  · rw [leftOf_ok (by omega)] at r
    have t := laws_toCluster_ret c h
    exact laws_FnExactCreditsIn_p3 _ _ _ _ _ _ _ _ _ _ _ _ _ _ _ _ _ _ _ _ _ _ _ _ _ _ _ _ _ _ _ _ ⟨r, by simp only [decide_eq_false_iff_not]; omega, t, spec_CreditsIn_ret c h, t, impl_CreditsIn_ret c h, by simp, t, laws_eqCluster_ret' c c true (by simp) h, rfl, trivial⟩
  · rw [leftOf_neg (by omega)] at r
    exact laws_FnExactCreditsIn_p0 _ _ _ _ _ _ _ _ ⟨r, rfl, trivial⟩

theorem law_CreditsOk (c : Cluster) (hw : c.wf) : Ret Try.prog 6 [.agg c.e] [.one (B true)] := by
  have r := laws_szCluster_ret c 1048576 (by omega) (by omega) hw
  by_cases h : c.sz ≤ 1048576
  · rw [leftOf_ok (by omega)] at r
    have t := laws_toCluster_ret c h
    exact laws_FnExactCreditsOk_p3 _ _ _ _ _ _ _ _ _ _ _ _ _ _ _ _ _ _ _ _ _ _ _ _ _ _ _ _ _ _ _ _ ⟨r, by simp only [decide_eq_false_iff_not]; omega, t, spec_CreditsOk_ret c h hw, t, impl_CreditsOk_ret c h hw, by simp, t, laws_eqCluster_ret' c c true (by simp) h, rfl, trivial⟩
  · rw [leftOf_neg (by omega)] at r
    exact laws_FnExactCreditsOk_p0 _ _ _ _ _ _ _ _ ⟨r, rfl, trivial⟩

theorem law_SumsOk (c : Cluster) (e : Int) (hw : c.wf) : Ret Try.prog 11 [.agg c.e, .one (I e)] [.one (B true)] := by
  have r := laws_szCluster_ret c 1048576 (by omega) (by omega) hw
  by_cases h : c.sz ≤ 1048576
  · rw [leftOf_ok (by omega)] at r
    have t := laws_toCluster_ret c h
    exact laws_FnExactSumsOk_p3 _ _ _ _ _ _ _ _ _ _ _ _ _ _ _ _ _ _ _ _ _ _ _ _ _ _ _ _ _ _ _ _ _ ⟨r, by simp only [decide_eq_false_iff_not]; omega, t, spec_SumsOk_ret c e h, t, impl_SumsOk_ret c e h, by simp, t, laws_eqCluster_ret' c c true (by simp) h, rfl, trivial⟩
  · rw [leftOf_neg (by omega)] at r
    exact laws_FnExactSumsOk_p0 _ _ _ _ _ _ _ _ _ ⟨r, rfl, trivial⟩
end Go.Proofs.Ytcdpehhhkfdoaaa
