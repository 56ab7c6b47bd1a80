/- The laws WithoutOne, Consumed, AllPicks answer true. -/
import Derived.Test.YtbbjajmimckabaaP7
import Derived.Test.YtbbjajmimckabaaT7
import Derived.Test.YtbbjajmimckabaaGO
set_option linter.unusedVariables false
set_option linter.unusedSimpArgs false
namespace Go.Proofs.Ytbbjajmimckabaa
open Go.Sx Go.RowKit

theorem law_WithoutOne (xs : List Record) (r : Record) (hx : (xs.length : Int) ≤ 9223372036854775807) (_ : ∀ x ∈ xs, x.wf) (_ : r.wf) : Ret Try.prog 3 [.one (.sl 5 (xs.map Record.e)), .agg r.e] [.one (B true)] := by
  have s := laws_szRecordS_ret xs 1048576 (by omega) (by omega) hx
  by_cases h : xs.length ≤ 1048576
  · rw [leftOf_ok (by omega)] at s
    have t := laws_toRecordS_ret xs h
    have tr := laws_toRecord_ret r
    have hl : (withoutOne xs r).length ≤ 1048576 := Nat.le_trans (withoutOne_le xs r) h
    have tx := top_Record xs h
    have tn := top_Record (withoutOne xs r) hl
    have eq := laws_eqRecordS_ret' (withoutOne xs r) _ true (decide_eq_true rfl) hl
    have hd := laws_heldRecordS_ret (withoutOne xs r) 1 (by omega) tn.2 hl
    have ng : decide (nextL Record.next 1 (withoutOne xs r) < 0) = false := dF (by omega)
    have ne : (nextL Record.next 1 (withoutOne xs r) != nextL Record.next 1 (withoutOne xs r)) = false := by simp
    have i := impl_WithoutOne_ret xs r h
    exact laws_FnExactWithoutOne_p10 _ _ _ _ _ _ _ _ _ _ _ _ _ _ _ _ _ _ _ _ _ _ _ _ _ _ _ _ _ _ _ _ _ _ _ _ _ _ _ ⟨s, dF (by omega), t, tr, spec_WithoutOne_ret xs r h, t, tr, i, eq, rfl, t, laws_eqRecordS_ret' xs _ true (decide_eq_true rfl) h, rfl, laws_markRecordS_ret xs 1 (by omega) tx.2 h, dF (by omega), eq, rfl, laws_markRecordS_ret (withoutOne xs r) 1 (by omega) tn.2 hl, hd, ng, ne, t, tr, i, eq, rfl, hd, ng, ne, trivial⟩
  · rw [leftOf_neg (by omega)] at s
    exact laws_FnExactWithoutOne_p0 _ _ _ _ _ _ _ ⟨s, rfl, trivial⟩

theorem law_Consumed (c : Cluster) (p : Pick) (hw : c.wf) (_ : p.wf) : Ret Try.prog 4 [.agg c.e, .agg p.e] [.one (B true)] := by
  have s := laws_szCluster_ret c 1048576 (by omega) (by omega) hw
  by_cases h : c.sz ≤ 1048576
  · rw [leftOf_ok (by omega)] at s
    have t := laws_toCluster_ret c h
    have tp := laws_toPick_ret p
    exact laws_FnExactConsumed_p4 _ _ _ _ _ _ _ _ _ _ _ _ _ _ _ _ _ _ _ _ _ _ _ _ _ _ _ _ _ _ _ _ _ _ _ _ _ _ _ _ _ _ _ _ _ _ _ _ _ _ _ _ ⟨s, dF (by omega), t, tp, spec_Consumed_ret c p h, t, tp, impl_Consumed_ret c p h, laws_eqRecord_ret' _ _ true (decide_eq_true rfl), rfl, by simp, t, laws_eqCluster_ret' c c true (by simp) h, rfl, trivial⟩
  · rw [leftOf_neg (by omega)] at s
    exact laws_FnExactConsumed_p0 _ _ _ _ _ _ _ _ _ _ _ ⟨s, rfl, trivial⟩

theorem law_AllPicks (c : Cluster) (hw : c.wf) : Ret Try.prog 5 [.agg c.e] [.one (B true)] := by
  have s := laws_szCluster_ret c 1048576 (by omega) (by omega) hw
  by_cases h : c.sz ≤ 1048576
  · rw [leftOf_ok (by omega)] at s
    have t := laws_toCluster_ret c h
    have hl : (allPicks c).length ≤ 1048576 := Nat.le_trans (allPicks_le c) (by omega)
    have tc := Cluster.topNext_le c h
    have tn := top_Pick (allPicks c) hl
    have eq := laws_eqPickS_ret' (allPicks c) _ true (decide_eq_true rfl) hl
    have hd := laws_heldPickS_ret (allPicks c) 1 (by omega) tn.2 hl
    have ng : decide (nextL Pick.next 1 (allPicks c) < 0) = false := dF (by omega)
    have ne : (nextL Pick.next 1 (allPicks c) != nextL Pick.next 1 (allPicks c)) = false := by simp
    have i := impl_AllPicks_ret c
    exact laws_FnExactAllPicks_p10 _ _ _ _ _ _ _ _ _ _ _ _ _ _ _ _ _ _ _ _ _ _ _ _ _ _ _ _ _ _ _ _ _ _ _ _ _ _ _ _ _ _ _ _ _ _ _ _ _ _ _ _ _ ⟨s, dF (by omega), t, spec_AllPicks_ret c, t, i, eq, rfl, t, laws_eqCluster_ret' c c true (by simp) h, rfl, laws_markCluster_ret c 1 (by omega) tc.2 h, dF (by omega), eq, rfl, laws_markPickS_ret (allPicks c) 1 (by omega) tn.2 hl, hd, ng, ne, t, i, eq, rfl, hd, ng, ne, trivial⟩
  · rw [leftOf_neg (by omega)] at s
    exact laws_FnExactAllPicks_p0 _ _ _ _ _ _ _ _ ⟨s, rfl, trivial⟩
end Go.Proofs.Ytbbjajmimckabaa
