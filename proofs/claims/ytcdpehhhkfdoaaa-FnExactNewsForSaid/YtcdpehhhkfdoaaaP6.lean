/- The laws NewsFor, CappedIn answer true. -/
import Derived.Test.YtcdpehhhkfdoaaaP5
import Derived.Test.YtcdpehhhkfdoaaaT7
import Derived.Test.YtcdpehhhkfdoaaaGJ
set_option linter.unusedVariables false
set_option linter.unusedSimpArgs false
namespace Go.Proofs.Ytcdpehhhkfdoaaa
open Go.Sx Go.RowKit

theorem law_NewsFor (c : Cluster) (w : Int) (hw : c.wf) : Ret Try.prog 13 [.agg c.e, .one (I w)] [.one (B true)] := by
  have r := laws_szCluster_ret c 1048576 (by omega) (by omega) hw
  by_cases h : c.sz ≤ 1048576
  · rw [leftOf_ok (by omega)] at r
    have t := laws_toCluster_ret c h
    have hl := newsFor_le (w := w) h
    have tc := Cluster.topNext_le c h
    have tn := top_News (newsFor c w) hl
    have eq := laws_eqNewsS_ret' (newsFor c w) _ true (decide_eq_true rfl) hl
    have hd := laws_heldNewsS_ret (newsFor c w) 1 (by omega) tn.2 hl
    have ng : decide (nextL News.next 1 (newsFor c w) < 0) = false := by simp only [decide_eq_false_iff_not]; omega
    have ne : (nextL News.next 1 (newsFor c w) != nextL News.next 1 (newsFor c w)) = false := by simp
    exact laws_FnExactNewsFor_p10 _ _ _ _ _ _ _ _ _ _ _ _ _ _ _ _ _ _ _ _ _ _ _ _ _ _ _ _ _ _ _ _ _ _ _ _ _ _ _ _ _ _ _ _ _ _ _ _ _ _ _ _ _ _ ⟨r, by simp only [decide_eq_false_iff_not]; omega, t, spec_NewsFor_ret c w h, t, impl_NewsFor_ret c w h, eq, rfl, t, laws_eqCluster_ret' c c true (by simp) h, rfl, laws_markCluster_ret c 1 (by omega) tc.2 h, by simp only [decide_eq_false_iff_not]; omega, eq, rfl, laws_markNewsS_ret (newsFor c w) 1 (by omega) tn.2 hl, hd, ng, ne, t, impl_NewsFor_ret c w h, eq, rfl, hd, ng, ne, trivial⟩
  · rw [leftOf_neg (by omega)] at r
    exact laws_FnExactNewsFor_p0 _ _ _ _ _ _ _ _ _ ⟨r, rfl, trivial⟩

theorem law_CappedIn (c : Cluster) (hw : c.wf) : Ret Try.prog 14 [.agg c.e] [.one (B true)] := by
  have r := laws_szCluster_ret c 1048576 (by omega) (by omega) hw
  by_cases h : c.sz ≤ 1048576
  · rw [leftOf_ok (by omega)] at r
    have t := laws_toCluster_ret c h
    have hl : (cappedIn c).length ≤ 1048576 := Nat.le_trans (cappedIn_le c) (by omega)
    have tc := Cluster.topNext_le c h
    have tn := top_Int (cappedIn c) hl
    have eq := laws_eqIntS_ret' (cappedIn c) _ true (decide_eq_true rfl) hl
    have hd := laws_heldIntS_ret (cappedIn c) 1 (by omega) tn.2 hl
    have ng : decide (nextL nI 1 (cappedIn c) < 0) = false := by simp only [decide_eq_false_iff_not]; omega
    have ne : (nextL nI 1 (cappedIn c) != nextL nI 1 (cappedIn c)) = false := by simp
    exact laws_FnExactCappedIn_p10 _ _ _ _ _ _ _ _ _ _ _ _ _ _ _ _ _ _ _ _ _ _ _ _ _ _ _ _ _ _ _ _ _ _ _ _ _ _ _ _ _ _ _ _ _ _ _ _ _ _ _ _ _ ⟨r, by simp only [decide_eq_false_iff_not]; omega, t, spec_CappedIn_ret c h, t, impl_CappedIn_ret c h, eq, rfl, t, laws_eqCluster_ret' c c true (by simp) h, rfl, laws_markCluster_ret c 1 (by omega) tc.2 h, by simp only [decide_eq_false_iff_not]; omega, eq, rfl, laws_markIntS_ret (cappedIn c) 1 (by omega) tn.2 hl, hd, ng, ne, t, impl_CappedIn_ret c h, eq, rfl, hd, ng, ne, trivial⟩
  · rw [leftOf_neg (by omega)] at r
    exact laws_FnExactCappedIn_p0 _ _ _ _ _ _ _ _ ⟨r, rfl, trivial⟩
end Go.Proofs.Ytcdpehhhkfdoaaa
