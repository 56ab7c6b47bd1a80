/- The laws PendingAll, PendingOf, SafeAt answer true. -/
import Derived.Test.YtbbjajmimckabaaGreatP12
import Derived.Test.YtbbjajmimckabaaGreatT7
import Derived.Test.YtbbjajmimckabaaGreatGO
set_option linter.unusedVariables false
set_option linter.unusedSimpArgs false
namespace Go.Proofs.YtbbjajmimckabaaGreat
open Go.Sx Go.RowKit

theorem law_PendingAll (c : Cluster) (hw : c.wf) : Ret Tryz.prog 3 [.agg c.e] [.one (B true)] := by
  have s := laws_szCluster_ret c 1048576 (by omega) (by omega) hw
  by_cases h : c.sz ≤ 1048576
  · rw [leftOf_ok (by omega)] at s
    have t := laws_toCluster_ret c h
    have hl := pendAll_le h
    have tc := Cluster.topNext_le c h
    have tn := top_Record (pendAll c) hl
    have eq := laws_eqRecordS_ret' (pendAll c) _ true (decide_eq_true rfl) hl
    have hd := laws_heldRecordS_ret (pendAll c) 1 (by omega) tn.2 hl
    have ng : decide (nextL Record.next 1 (pendAll c) < 0) = false := dF (by omega)
    have ne : (nextL Record.next 1 (pendAll c) != nextL Record.next 1 (pendAll c)) = false := by simp
    have i := impl_PendingAll_ret c h
    exact laws_FnExactPendingAll_p10 _ _ _ _ _ _ _ _ _ _ _ _ _ _ _ _ _ _ _ _ _ _ _ _ _ _ _ _ _ _ _ _ _ _ _ _ _ _ _ _ _ _ _ _ _ _ _ _ _ _ _ _ _ ⟨s, dF (by omega), t, spec_PendingAll_ret c h, t, i, eq, rfl, t, laws_eqCluster_ret' c c true (by simp) h, rfl, laws_markCluster_ret c 1 (by omega) tc.2 h, dF (by omega), eq, rfl, laws_markRecordS_ret (pendAll c) 1 (by omega) tn.2 hl, hd, ng, ne, t, i, eq, rfl, hd, ng, ne, trivial⟩
  · rw [leftOf_neg (by omega)] at s
    exact laws_FnExactPendingAll_p0 _ _ _ _ _ _ _ _ ⟨s, rfl, trivial⟩

theorem law_PendingOf (c : Cluster) (e : Int) (hw : c.wf) : Ret Tryz.prog 4 [.agg c.e, .one (I e)] [.one (B true)] := by
  have s := laws_szCluster_ret c 1048576 (by omega) (by omega) hw
  by_cases h : c.sz ≤ 1048576
  · rw [leftOf_ok (by omega)] at s
    have t := laws_toCluster_ret c h
    have hl := pendOf_le (e := e) h
    have tc := Cluster.topNext_le c h
    have tn := top_Record (pendOf c e) hl
    have eq := laws_eqRecordS_ret' (pendOf c e) _ true (decide_eq_true rfl) hl
    have hd := laws_heldRecordS_ret (pendOf c e) 1 (by omega) tn.2 hl
    have ng : decide (nextL Record.next 1 (pendOf c e) < 0) = false := dF (by omega)
    have ne : (nextL Record.next 1 (pendOf c e) != nextL Record.next 1 (pendOf c e)) = false := by simp
    have i := impl_PendingOf_ret c e h
    exact laws_FnExactPendingOf_p10 _ _ _ _ _ _ _ _ _ _ _ _ _ _ _ _ _ _ _ _ _ _ _ _ _ _ _ _ _ _ _ _ _ _ _ _ _ _ _ _ _ _ _ _ _ _ _ _ _ _ _ _ _ _ ⟨s, dF (by omega), t, spec_PendingOf_ret c e h, t, i, eq, rfl, t, laws_eqCluster_ret' c c true (by simp) h, rfl, laws_markCluster_ret c 1 (by omega) tc.2 h, dF (by omega), eq, rfl, laws_markRecordS_ret (pendOf c e) 1 (by omega) tn.2 hl, hd, ng, ne, t, i, eq, rfl, hd, ng, ne, trivial⟩
  · rw [leftOf_neg (by omega)] at s
    exact laws_FnExactPendingOf_p0 _ _ _ _ _ _ _ _ _ ⟨s, rfl, trivial⟩

theorem law_SafeAt (c : Cluster) (e : Int) (hw : c.wf) : Ret Tryz.prog 6 [.agg c.e, .one (I e)] [.one (B true)] := by
  have s := laws_szCluster_ret c 1048576 (by omega) (by omega) hw
  by_cases h : c.sz ≤ 1048576
  · rw [leftOf_ok (by omega)] at s
    have t := laws_toCluster_ret c h
    exact laws_FnExactSafeAt_p3 _ _ _ _ _ _ _ _ _ _ _ _ _ _ _ _ _ _ _ _ _ _ _ _ _ _ _ _ _ _ _ _ _ ⟨s, dF (by omega), t, spec_SafeAt_ret c e h, t, impl_SafeAt_ret c e h, by simp, t, laws_eqCluster_ret' c c true (by simp) h, rfl, trivial⟩
  · rw [leftOf_neg (by omega)] at s
    exact laws_FnExactSafeAt_p0 _ _ _ _ _ _ _ _ _ ⟨s, rfl, trivial⟩
end Go.Proofs.YtbbjajmimckabaaGreat
