/- TokenStep: what program and reference compute. -/
import Derived.Test.YtdanpadojemjeaaGreatP44
set_option linter.unusedVariables false
set_option linter.unusedSimpArgs false
namespace Go.Proofs.YtdanpadojemjeaaGreat
open Go.Sx Go.RowKit
theorem beq0 (a b : Nat) : (((a : Int) + (b : Int)) == 0) = (a + b == 0) := by
  rw [Bool.eq_iff_iff]; simp only [beq_iff_eq]; omega
theorem qCt (w : Worker) (e : Int) (hw : w.sz ≤ 8388608) : Rt 205 [.agg w.e, .one (I e)] [.one (B (qe2 w e))] := by
  have hl : w.inputs.length ≤ 8388608 := by simp only [Worker.sz] at hw; omega
  have l := qaV (P := Tryz.prog) (c := (qaa Tryz.f205 0)) w.inputs (fun r => decide (r.stamp.epoch ≤ e)) (fun i => qdW (w.queue.map Record.e) (w.staged.map Record.e) (w.inputs.map Record.e) (w.cells.map Cell.e) (w.sums.map eI) (w.black.map eB) (w.caps.map eB) (w.dones.map Done.e) e i) (X := fun _ _ => qiI true) qao (qaf 0)
    (fun i a ha h => qu8 ⟨lt1 (lt_of ha), lt0, lt2 (lt_of ha), qac Record.e ha, h, up1 (lt_of ha) hl, trivial⟩)
    (fun i a ha h => qu7 ⟨lt1 (lt_of ha), lt0, lt2 (lt_of ha), qac Record.e ha, h, trivial⟩)
    (qu9 ⟨ge1, trivial⟩)
  unfold qe2
  rcases l with ⟨_, _, h1, h2⟩ | ⟨i, a, _, _, _, _, h1, h2⟩
  · rw [h1]; exact qvb ⟨h2, trivial⟩
  · rw [h1]; exact qva ⟨h2, trivial⟩
theorem qCu (w : Worker) (e : Int) (hw : w.sz ≤ 8388608) : Rt 141 [.agg w.e, .one (I e)] [.one (B (qe2 w e))] := by
  have hl : w.inputs.length ≤ 8388608 := by simp only [Worker.sz] at hw; omega
  exact qvf ⟨qtP w.inputs (fun r => decide (r.stamp.epoch ≤ e)) 208 [.ptr [I e]] hl (by kernel_rfl) (fun x _ => qvg trivial), trivial⟩
theorem qCv (w : Worker) (e : Int) (hw : w.sz ≤ 8388608) : Rt 206 [.agg w.e, .one (I e)] [.one (I ((↑((qbP e w.queue).map Record.e).length : Int) + (↑((qbP e w.staged).map Record.e).length : Int)))] := by
  simp only [Worker.sz] at hw
  have k1 : (qbP e w.queue).length ≤ w.queue.length := List.length_filter_le _ _
  have k2 : (qbP e w.staged).length ≤ w.staged.length := List.length_filter_le _ _
  exact qve ⟨qlV w.queue e (by omega), qlV w.staged e (by omega), ⟨by simp only [List.length_map]; omega, by simp only [List.length_map]; omega⟩, trivial⟩
theorem qCw (w : Worker) (e : Int) (hw : w.sz ≤ 8388608) : Rt 139 [.agg w.e, .one (I e)] [.one (B (qcS w e))] := by
  have o := qCt w e hw
  unfold qcS
  cases h : qe2 w e with
  | true => rw [h] at o; exact qvd ⟨o, rfl, trivial⟩
  | false =>
    rw [h] at o
    have a := qCv w e hw
    rw [List.length_map, List.length_map] at a
    have b := qvc ⟨o, rfl, a, trivial⟩
    rw [beq0] at b
    exact b
theorem qCx (w : Worker) (e : Int) (hw : w.sz ≤ 8388608) : Rt 142 [.agg w.e, .one (I e)] [.one (I ((↑((qbP e w.queue).map Record.e).length : Int) + (↑((qbP e w.staged).map Record.e).length : Int)))] := by
  simp only [Worker.sz] at hw
  have k1 : (qbP e w.queue).length ≤ w.queue.length := List.length_filter_le _ _
  have k2 : (qbP e w.staged).length ≤ w.staged.length := List.length_filter_le _ _
  exact qvj ⟨qlW w.queue e (by omega), qlW w.staged e (by omega), ⟨by simp only [List.length_map]; omega, by simp only [List.length_map]; omega⟩, trivial⟩
theorem qCy (w : Worker) (e : Int) (hw : w.sz ≤ 8388608) : Rt 82 [.agg w.e, .one (I e)] [.one (B (qcS w e))] := by
  have o := qCu w e hw
  unfold qcS
  cases h : qe2 w e with
  | true => rw [h] at o; exact qvi ⟨o, rfl, trivial⟩
  | false =>
    rw [h] at o
    have a := qCx w e hw
    rw [List.length_map, List.length_map] at a
    have b := qvh ⟨o, rfl, a, trivial⟩
    rw [beq0] at b
    exact b
theorem qmT (w : Worker) (e : Int) (r : Bool) (h : qcS w e = r) (hw : w.sz ≤ 8388608) : Rt 139 [.agg w.e, .one (I e)] [.one (B r)] := h ▸ qCw w e hw
theorem qmU (w : Worker) (e : Int) (r : Bool) (h : qcS w e = r) (hw : w.sz ≤ 8388608) : Rt 82 [.agg w.e, .one (I e)] [.one (B r)] := h ▸ qCy w e hw
end Go.Proofs.YtdanpadojemjeaaGreat
