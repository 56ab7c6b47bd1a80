/- WorkerOk in the program; ClusterOk. -/
import Derived.Test.YtialmplmfcahpaaGreatP29
set_option linter.unusedVariables false
set_option linter.unusedSimpArgs false
namespace Go.Proofs.YtialmplmfcahpaaGreat
open Go.Sx Go.RowKit
theorem impl_ins (w : Worker) (hl : w.inputs.length ≤ 1048576) :
    (anyI (inBad w.inputs) 0 w.inputs = false ∧ qac Tryz.prog (qaa Tryz.f182 0) (impl_WorkerOk_L0 (w.inputs.map Record.e) 0 (w.queue.map Record.e) (w.staged.map Record.e) (w.inputs.map Record.e) (w.cells.map Cell.e) (w.sums.map eI) (w.black.map eB) (w.caps.map eB) (w.dones.map Done.e)) (.exit 0) (impl_WorkerOk_X0v2 (w.queue.map Record.e) (w.staged.map Record.e) (w.inputs.map Record.e) (w.cells.map Cell.e) (w.sums.map eI) (w.black.map eB) (w.caps.map eB) (w.dones.map Done.e))) ∨
    (anyI (inBad w.inputs) 0 w.inputs = true ∧ qac Tryz.prog (qaa Tryz.f182 0) (impl_WorkerOk_L0 (w.inputs.map Record.e) 0 (w.queue.map Record.e) (w.staged.map Record.e) (w.inputs.map Record.e) (w.cells.map Cell.e) (w.sums.map eI) (w.black.map eB) (w.caps.map eB) (w.dones.map Done.e)) .ret (impl_WorkerOk_X0 false)) :=
  qf3 (P := Tryz.prog) (c := (qaa Tryz.f182 0)) w.inputs (inBad w.inputs) (fun i => impl_WorkerOk_L0 (w.inputs.map Record.e) i (w.queue.map Record.e) (w.staged.map Record.e) (w.inputs.map Record.e) (w.cells.map Cell.e) (w.sums.map eI) (w.black.map eB) (w.caps.map eB) (w.dones.map Done.e)) qaD (qah 0)
    (fun i a ha h => by
      have hi := lt_of ha
      obtain ⟨h1, h2, rfl | ⟨j, b, rfl, hb, h3⟩⟩ := inBad_false ha h
      · exact impl_WorkerOk_L0_s4 _ _ _ _ _ _ _ _ _ _ _ _ _ _ _ ⟨lt1 (lt_of ha), lt0, lt2 (lt_of ha), qae Record.e ha, h1, h2, dF (by omega), up1 (lt_of ha) hl, trivial⟩
      · exact impl_WorkerOk_L0_s3 _ _ _ _ _ _ _ _ _ _ _ _ _ _ _ _ _ _ _ _ ⟨lt1 (lt_of ha), lt0, lt2 (lt_of ha), qae Record.e ha, h1, h2, dT (by omega), ⟨by omega, by omega⟩, by omega, lt_prev hb, at_prev Record.e hb, h3, up1 (lt_of ha) hl, trivial⟩)
    (fun i a ha h => by
      have hi := lt_of ha
      rcases inBad_true ha h with h1 | ⟨h1, h2⟩ | ⟨h1, h2, j, b, rfl, hb, h3⟩
      · exact impl_WorkerOk_L0_x0 _ _ _ _ _ _ _ _ _ _ _ _ _ _ _ ⟨lt1 (lt_of ha), lt0, lt2 (lt_of ha), qae Record.e ha, h1, trivial⟩
      · exact impl_WorkerOk_L0_x1 _ _ _ _ _ _ _ _ _ _ _ _ _ _ _ ⟨lt1 (lt_of ha), lt0, lt2 (lt_of ha), qae Record.e ha, h1, h2, trivial⟩
      · exact impl_WorkerOk_L0_x2 _ _ _ _ _ _ _ _ _ _ _ _ _ _ _ _ _ _ _ _ ⟨lt1 (lt_of ha), lt0, lt2 (lt_of ha), qae Record.e ha, h1, h2, dT (by omega), ⟨by omega, by omega⟩, by omega, lt_prev hb, at_prev Record.e hb, h3, trivial⟩)
    (impl_WorkerOk_L0_x5 _ _ _ _ _ _ _ _ _ _ ⟨ge1, trivial⟩)
theorem doneAt_take (xs : List Done) (i : Nat) (e : Int) (r : Bool) (h : (xs.take i).any (fun q => q.epoch == e) = r) (hl : xs.length ≤ 1048576) : Ret Tryz.prog 206 [.one (.sl 2 ((xs.map Done.e).take i)), .one (I e)] [.one (B r)] := by
  have c := impl_doneAt_ret (xs.take i) e (by rw [List.length_take]; omega)
  rw [List.map_take, h] at c
  exact c
theorem impl_dones (w : Worker) (hl : w.dones.length ≤ 1048576) :
    (anyI (doneBad w.dones) 0 w.dones = false ∧ qac Tryz.prog (qaa Tryz.f182 2) (impl_WorkerOk_L2 (w.dones.map Done.e) 0 (w.queue.map Record.e) (w.staged.map Record.e) (w.inputs.map Record.e) (w.cells.map Cell.e) (w.sums.map eI) (w.black.map eB) (w.caps.map eB) (w.dones.map Done.e)) (.exit 4) impl_WorkerOk_X2v8) ∨
    (anyI (doneBad w.dones) 0 w.dones = true ∧ qac Tryz.prog (qaa Tryz.f182 2) (impl_WorkerOk_L2 (w.dones.map Done.e) 0 (w.queue.map Record.e) (w.staged.map Record.e) (w.inputs.map Record.e) (w.cells.map Cell.e) (w.sums.map eI) (w.black.map eB) (w.caps.map eB) (w.dones.map Done.e)) .ret (impl_WorkerOk_X2 false)) :=
  qf3 (P := Tryz.prog) (c := (qaa Tryz.f182 2)) w.dones (doneBad w.dones) (fun i => impl_WorkerOk_L2 (w.dones.map Done.e) i (w.queue.map Record.e) (w.staged.map Record.e) (w.inputs.map Record.e) (w.cells.map Cell.e) (w.sums.map eI) (w.black.map eB) (w.caps.map eB) (w.dones.map Done.e)) qaD (qah 4)
    (fun i a ha h => by
      have hi := lt_of ha
      simp only [doneBad, Bool.or_eq_false_iff, Bool.not_eq_false'] at h
      exact impl_WorkerOk_L2_s2 _ _ _ _ _ _ _ _ _ _ _ _ _ _ ⟨lt1 (lt_of ha), lt0, lt2 (lt_of ha), qae Done.e ha, qgr _ _ _ true h.1, rfl, Int.le_refl 0, (lt0 : (0 : Int) ≤ (i : Int)), (show (i : Int) ≤ _ by rw [List.length_map]; omega), doneAt_take w.dones i a.epoch false h.2 hl, rfl, up1 (lt_of ha) hl, trivial⟩)
    (fun i a ha h => by
      have hi := lt_of ha
      cases h1 : inR a.epoch 0 3 with
      | false => exact impl_WorkerOk_L2_x0 _ _ _ _ _ _ _ _ _ _ _ _ _ ⟨lt1 (lt_of ha), lt0, lt2 (lt_of ha), qae Done.e ha, qgr _ _ _ false h1, rfl, trivial⟩
      | true =>
        simp only [doneBad, h1, Bool.not_true, Bool.false_or] at h
        exact impl_WorkerOk_L2_x1 _ _ _ _ _ _ _ _ _ _ _ _ _ _ ⟨lt1 (lt_of ha), lt0, lt2 (lt_of ha), qae Done.e ha, qgr _ _ _ true h1, rfl, Int.le_refl 0, (lt0 : (0 : Int) ≤ (i : Int)), (show (i : Int) ≤ _ by rw [List.length_map]; omega), doneAt_take w.dones i a.epoch true h hl, rfl, trivial⟩)
    (impl_WorkerOk_L2_x3 _ _ _ _ _ _ _ _ _ _ ⟨ge1, trivial⟩)
theorem impl_WorkerOk_ret (g : Graph) (w : Worker) (hg : g.sz ≤ 1048576) (hw : w.sz ≤ 1048576) : Ret Tryz.prog 182 [.agg g.e, .agg w.e] [.one (B (workerOk g w))] := by
  unfold workerOk
  cases h1 : recsOk g w.queue with
  | false => exact impl_WorkerOk_p0 _ _ _ _ _ _ _ _ _ _ _ _ ⟨recs_impl g _ _ h1 hg (Worker.queue_le hw), rfl, trivial⟩
  | true =>
  have c1 := recs_impl g _ _ h1 hg (Worker.queue_le hw)
  cases h2 : recsOk g w.staged with
  | false => exact impl_WorkerOk_p1 _ _ _ _ _ _ _ _ _ _ _ _ _ ⟨c1, rfl, recs_impl g _ _ h2 hg (Worker.staged_le hw), rfl, trivial⟩
  | true =>
  have c2 := recs_impl g _ _ h2 hg (Worker.staged_le hw)
  cases h3 : recsOk g w.inputs with
  | false => exact impl_WorkerOk_p2 _ _ _ _ _ _ _ _ _ _ _ _ _ _ ⟨c1, rfl, c2, rfl, recs_impl g _ _ h3 hg (Worker.inputs_le hw), rfl, trivial⟩
  | true =>
  have c3 := recs_impl g _ _ h3 hg (Worker.inputs_le hw)
  cases h4 : cellsOk w.cells with
  | false => exact impl_WorkerOk_p3 _ _ _ _ _ _ _ _ _ _ _ _ _ _ _ ⟨c1, rfl, c2, rfl, c3, rfl, impl_CellsOk_ret' _ _ h4 (Worker.cells_le' hw), rfl, trivial⟩
  | true =>
  have c4 := impl_CellsOk_ret' _ _ h4 (Worker.cells_le' hw)
  rcases impl_ins w (Worker.inputs_le hw) with ⟨h8, l8⟩ | ⟨h8, l8⟩
  case inr =>
    rw [h8]
    simp only [Bool.not_true, Bool.false_and, Bool.and_false]
    exact impl_WorkerOk_p4 _ _ _ _ _ _ _ _ _ _ _ _ _ _ _ _ ⟨c1, rfl, c2, rfl, c3, rfl, c4, rfl, l8, trivial⟩
  cases h5 : (w.sums.length == 4) with
  | false => exact impl_WorkerOk_p5 _ _ _ _ _ _ _ _ _ _ _ _ _ _ _ _ _ _ _ _ _ _ _ ⟨c1, rfl, c2, rfl, c3, rfl, c4, rfl, l8, len4' h5, trivial⟩
  | true =>
  cases h6 : (w.black.length == 4) with
  | false => exact impl_WorkerOk_p6 _ _ _ _ _ _ _ _ _ _ _ _ _ _ _ _ _ _ _ _ _ _ _ ⟨c1, rfl, c2, rfl, c3, rfl, c4, rfl, l8, len4 h5, len4' h6, trivial⟩
  | true =>
  cases h7 : (w.caps.length == 4) with
  | false => exact impl_WorkerOk_p7 _ _ _ _ _ _ _ _ _ _ _ _ _ _ _ _ _ _ _ _ _ _ _ ⟨c1, rfl, c2, rfl, c3, rfl, c4, rfl, l8, len4 h5, len4 h6, len4' h7, trivial⟩
  | true =>
  have l9 := qbB (P := Tryz.prog) (c := (qaa Tryz.f182 1)) w.sums sumBad (fun i => impl_WorkerOk_L1 (w.queue.map Record.e) (w.staged.map Record.e) (w.inputs.map Record.e) (w.cells.map Cell.e) (w.sums.map eI) (w.black.map eB) (w.caps.map eB) (w.dones.map Done.e) i) (X := fun _ _ => impl_WorkerOk_X1 false) qaD (qah 2)
    (fun i a ha h => impl_WorkerOk_L1_s1 _ _ _ _ _ _ _ _ _ _ _ ⟨lt1 (lt_of ha), lt0, lt2 (lt_of ha), qae eI ha, qgr _ _ _ true (by simpa [sumBad] using h), rfl, up1 (lt_of ha) (Worker.sums_le hw), trivial⟩)
    (fun i a ha h => impl_WorkerOk_L1_x0 _ _ _ _ _ _ _ _ _ _ _ ⟨lt1 (lt_of ha), lt0, lt2 (lt_of ha), qae eI ha, qgr _ _ _ false (by simpa [sumBad] using h), rfl, trivial⟩)
    (impl_WorkerOk_L1_x2 _ _ _ _ _ _ _ _ _ ⟨ge1, trivial⟩)
  rw [h8]
  rcases l9 with ⟨_, _, h9, l9⟩ | ⟨_, _, _, _, _, _, h9, l9⟩
  case inr => rw [h9]; exact impl_WorkerOk_p8 _ _ _ _ _ _ _ _ _ _ _ _ _ _ _ _ _ _ _ _ _ _ _ _ ⟨c1, rfl, c2, rfl, c3, rfl, c4, rfl, l8, len4 h5, len4 h6, len4 h7, l9, trivial⟩
  rw [h9]
  rcases impl_dones w (Worker.dones_le' hw) with ⟨h10, l10⟩ | ⟨h10, l10⟩
  · rw [h10]; exact impl_WorkerOk_p10 _ _ _ _ _ _ _ _ _ _ _ _ _ _ _ _ _ _ _ _ _ _ _ ⟨c1, rfl, c2, rfl, c3, rfl, c4, rfl, l8, len4 h5, len4 h6, len4 h7, l9, l10, trivial⟩
  · rw [h10]; exact impl_WorkerOk_p9 _ _ _ _ _ _ _ _ _ _ _ _ _ _ _ _ _ _ _ _ _ _ _ _ ⟨c1, rfl, c2, rfl, c3, rfl, c4, rfl, l8, len4 h5, len4 h6, len4 h7, l9, l10, trivial⟩
end Go.Proofs.YtialmplmfcahpaaGreat
