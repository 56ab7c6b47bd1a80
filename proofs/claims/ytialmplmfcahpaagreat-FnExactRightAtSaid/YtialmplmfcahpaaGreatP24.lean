/- The law RightAt answers true. -/
import Derived.Test.YtialmplmfcahpaaGreatP23
set_option linter.unusedVariables false
set_option linter.unusedSimpArgs false
namespace Go.Proofs.YtialmplmfcahpaaGreat
open Go.Sx Go.RowKit
theorem qEa (c : Cluster) (xs : List Record) (e : Int) (hw : c.wf) (hx : (xs.length : Int) ≤ 9223372036854775807) (_ : ∀ x ∈ xs, x.wf) : Ret Tryz.prog 6 [.agg c.e, .one (.sl 5 (xs.map Record.e)), .one (I e)] [.one (B true)] := by
  have s := qf6 c 1048576 (by omega) (by omega) hw
  by_cases h : c.sz ≤ 1048576
  · rw [qaL (by omega)] at s
    have s2 := qff xs (1048576 - c.sz) (by omega) (by omega) hx
    by_cases h2 : (xs.length : Int) ≤ 1048576 - c.sz
    · rw [qaL h2] at s2
      have hl : xs.length ≤ 1048576 := by omega
      have t := qgh c h
      have t2 := qfg xs hl
      exact qwX _ _ _ _ _ _ _ _ _ _ _ _ _ _ _ _ _ _ _ _ _ _ _ _ _ _ _ _ _ _ _ _ _ _ _ _ _ _ _ ⟨s, dF (by omega), s2, dF (by omega), t, t2, qD7 c xs e h hl, t, t2, qD9 c xs e h hl, by simp, t, qgl c c true (by simp) h, rfl, t2, qaM xs _ true (decide_eq_true rfl) hl, rfl, trivial⟩
    · rw [qav (by omega)] at s2
      exact qwW _ _ _ _ _ _ _ _ _ _ _ ⟨s, dF (by omega), s2, rfl, trivial⟩
  · rw [qav (by omega)] at s
    exact qwV _ _ _ _ _ _ _ _ _ _ ⟨s, rfl, trivial⟩
end Go.Proofs.YtialmplmfcahpaaGreat
