/- The laws Produced, StepKind answer true. -/
import Derived.Test.YtialmplmfcahpaaGreatP26
import Derived.Test.YtialmplmfcahpaaGreatT7
import Derived.Test.YtialmplmfcahpaaGreatGO
set_option linter.unusedVariables false
set_option linter.unusedSimpArgs false
namespace Go.Proofs.YtialmplmfcahpaaGreat
open Go.Sx Go.RowKit Go.Proofs.Tryz
theorem qEq (a b : Cluster) (p : Pick) (ha : a.wf) (hb : b.wf) (_ : p.wf) : Ret prog 4 [.agg a.e, .agg b.e, .agg p.e] [.one (B true)] := by
  have s := qf6 a 1048576 (by omega) (by omega) ha
  by_cases h : a.sz ≤ 1048576
  · rw [qaL (by omega)] at s
    have s2 := qf6 b (1048576 - a.sz) (by omega) (by omega) hb
    by_cases h2 : (b.sz : Int) ≤ 1048576 - a.sz
    · rw [qaL h2] at s2
      have hb2 : b.sz ≤ 1048576 := by omega
      have t := qgh a h
      have t2 := qgh b hb2
      have tp := qlt p
      exact qxk _ _ _ _ _ _ _ _ _ _ _ _ _ _ _ _ _ _ _ _ _ _ _ _ _ _ _ _ _ _ _ _ _ _ _ _ _ _ _ _ _ _ _ _ _ _ _ _ _ _ _ _ _ _ _ _ _ _ _ _ _ _ _ _ _ _ _ _ _ _ _ ⟨s, dF (by omega), s2, dF (by omega), t, t2, tp, qEn a b p h hb2, t, t2, tp, qEo a b p h hb2, by simp, t, qgl a a true (by simp) h, rfl, t2, qgl b b true (by simp) hb2, rfl, trivial⟩
    · rw [qav (by omega)] at s2
      exact qxj _ _ _ _ _ _ _ _ _ _ _ _ _ _ _ _ _ _ _ ⟨s, dF (by omega), s2, rfl, trivial⟩
  · rw [qav (by omega)] at s
    exact qxi _ _ _ _ _ _ _ _ _ _ _ _ _ _ _ _ _ _ ⟨s, rfl, trivial⟩
end Go.Proofs.YtialmplmfcahpaaGreat
