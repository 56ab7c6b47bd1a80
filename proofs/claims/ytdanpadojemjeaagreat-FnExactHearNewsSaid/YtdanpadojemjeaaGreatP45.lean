/- The law HearNews answers true. -/
import Derived.Test.YtdanpadojemjeaaGreatP44
import Derived.Test.YtdanpadojemjeaaGreatT7
import Derived.Test.YtdanpadojemjeaaGreatGO
set_option linter.unusedVariables false
set_option linter.unusedSimpArgs false
namespace Go.Proofs.YtdanpadojemjeaaGreat
open Go.Sx Go.RowKit
theorem nbb (b : Bool) : (!(b == b)) = false := by cases b <;> rfl
theorem qCW (c : Cluster) (w : Int) : (qaT c w).1.sz ≤ c.sz + 4 := qBi c ⟨7, w, 0⟩
theorem qCX (c : Cluster) (w : Int) (hw : c.wf) : Rt 3 [.agg c.e, .one (I w)] [.one (B true)] := by
  have r := qpq c 1048576 (by omega) (by omega) hw
  by_cases h : c.sz ≤ 1048576
  · rw [qaH (by omega)] at r
    have hb : c.sz ≤ 8388608 := by omega
    have t := qpI c hb
    have s := qBr c w hb (GotLe.of hw)
    have m := qBs c w hb (GotLe.of hw)
    have hs : (qaT c w).1.sz ≤ 8388608 := by have := qCW c w; omega
    generalize qaT c w = o at *
    obtain ⟨o, b⟩ := o
    have tc := Cluster.topNext_le c hb
    have tn := Cluster.topNext_le o hs
    have eq := qla o o true (decide_eq_true rfl) hs
    have hd := qCT o 1 (by omega) tn.2 hs
    have ng : decide (o.topNext 1 < 0) = false := dF (by omega)
    have ne : (o.topNext 1 != o.topNext 1) = false := by simp
    exact qCV ⟨r, dF (by omega), t, s, t, m, eq, rfl, nbb b, t, qla c c true (by simp) hb, rfl, qmS c 1 (by omega) tc.2 hb, dF (by omega), eq, rfl, nbb b, qmS o 1 (by omega) tn.2 hs, hd, ng, ne, t, m, eq, rfl, nbb b, hd, ng, ne, trivial⟩
  · rw [qar (by omega)] at r
    exact qCU ⟨r, rfl, trivial⟩
end Go.Proofs.YtdanpadojemjeaaGreat
