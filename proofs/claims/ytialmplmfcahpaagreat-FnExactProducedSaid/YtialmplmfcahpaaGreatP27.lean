/- The laws Produced, StepKind answer true. -/
import Derived.Test.YtialmplmfcahpaaGreatP26
import Derived.Test.YtialmplmfcahpaaGreatT7
import Derived.Test.YtialmplmfcahpaaGreatGO
namespace Go.Proofs.YtialmplmfcahpaaGreat
open Go.Sx Go.RowKit
set_option linter.unusedVariables false
set_option linter.unusedSimpArgs false
theorem qEp (c : Cluster) (p : Pick) (hw : c.wf) (_ : p.wf) : Ret Tryz.prog 3 [.agg c.e, .agg p.e] [.one (B true)] := by
  have s := qf6 c 1048576 (by omega) (by omega) hw
  by_cases h : c.sz ≤ 1048576
  · rw [qaL (by omega)] at s
    have t := qgh c h
    have tp := qlt p
    have hl : (qa0 c p).length ≤ 1048576 := Nat.le_trans (qm4 c p) (by omega)
    have tc := Cluster.topNext_le c h
    have tn := qw5 (qa0 c p) hl
    have eq := qaM (qa0 c p) _ true (decide_eq_true rfl) hl
    have hd := qw7 (qa0 c p) 1 (by omega) tn.2 hl
    have ng : decide (nextL Record.next 1 (qa0 c p) < 0) = false := dF (by omega)
    have ne : (nextL Record.next 1 (qa0 c p) != nextL Record.next 1 (qa0 c p)) = false := by simp
    have i := qm3 c p h
    exact qxh _ _ _ _ _ _ _ _ _ _ _ _ _ _ _ _ _ _ _ _ _ _ _ _ _ _ _ _ _ _ _ _ _ _ _ _ _ _ _ _ _ _ _ _ _ _ _ _ _ _ _ _ _ _ _ _ _ _ _ _ _ _ _ _ _ ⟨s, dF (by omega), t, tp, qm2 c p h, t, tp, i, eq, rfl, t, qgl c c true (by simp) h, rfl, qxf c 1 (by omega) tc.2 h, dF (by omega), eq, rfl, qfu (qa0 c p) 1 (by omega) tn.2 hl, hd, ng, ne, t, tp, i, eq, rfl, hd, ng, ne, trivial⟩
  · rw [qav (by omega)] at s
    exact qxg _ _ _ _ _ _ _ _ _ _ _ ⟨s, rfl, trivial⟩
end Go.Proofs.YtialmplmfcahpaaGreat
