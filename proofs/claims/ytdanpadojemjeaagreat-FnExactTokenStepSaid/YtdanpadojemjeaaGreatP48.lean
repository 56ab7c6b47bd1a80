/- The law TokenStep answers true. -/
import Derived.Test.YtdanpadojemjeaaGreatP47
import Derived.Test.YtdanpadojemjeaaGreatP45
set_option linter.unusedVariables false
set_option linter.unusedSimpArgs false
namespace Go.Proofs.YtdanpadojemjeaaGreat
open Go.Sx Go.RowKit
theorem qD9 (c : Cluster) (e : Int) : (qaK c e).1.sz ≤ c.sz + 4 := qCq c ⟨6, e, 0⟩
theorem qEa (c : Cluster) (e : Int) (hw : c.wf) : Rt 4 [.agg c.e, .one (I e)] [.one (B true)] := by
  have r := qpQ c 1048576 (by omega) (by omega) hw
  by_cases h : c.sz ≤ 1048576
  · rw [qaI (by omega)] at r
    have hb : c.sz ≤ 8388608 := by omega
    have t := qp8 c hb
    have s := qCC c e hb (GotLe.of hw)
    have m := qCF c e hb (GotLe.of hw)
    have hs : (qaK c e).1.sz ≤ 8388608 := by have := qD9 c e; omega
    generalize qaK c e = o at *
    obtain ⟨o, b⟩ := o
    have tc := Cluster.topNext_le c hb
    have tn := Cluster.topNext_le o hs
    have eq := qlo o o true (decide_eq_true rfl) hs
    have hd := qD6 o 1 (by omega) tn.2 hs
    have ng : decide (o.topNext 1 < 0) = false := dF (by omega)
    have ne : (o.topNext 1 != o.topNext 1) = false := by simp
    exact qD8 ⟨r, dF (by omega), t, s, t, m, eq, rfl, nbb b, t, qlo c c true (by simp) hb, rfl, qng c 1 (by omega) tc.2 hb, dF (by omega), eq, rfl, nbb b, qng o 1 (by omega) tn.2 hs, hd, ng, ne, t, m, eq, rfl, nbb b, hd, ng, ne, trivial⟩
  · rw [qar (by omega)] at r
    exact qD7 ⟨r, rfl, trivial⟩
end Go.Proofs.YtdanpadojemjeaaGreat
