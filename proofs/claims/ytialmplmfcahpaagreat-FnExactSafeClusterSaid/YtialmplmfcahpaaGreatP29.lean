/- WorkerOk: what program and reference compute. -/
import Derived.Test.YtialmplmfcahpaaGreatP28
set_option linter.unusedVariables false
set_option linter.unusedSimpArgs false
namespace Go.Proofs.YtialmplmfcahpaaGreat
open Go.Sx Go.RowKit
def inBad (xs : List Record) (i : Nat) (r : Record) : Bool :=
  r.op != 0 || r.stamp.turn != 0 || (match i with | 0 => false | j + 1 => match xs[j]? with | some q => decide (q.stamp.epoch > r.stamp.epoch) | none => false)
theorem inBad_true {xs : List Record} {i : Nat} {a : Record} (ha : xs[i]? = some a) (h : inBad xs i a = true) :
    (a.op != 0) = true ∨ ((a.op != 0) = false ∧ (a.stamp.turn != 0) = true) ∨ ((a.op != 0) = false ∧ (a.stamp.turn != 0) = false ∧ ∃ j b, i = j + 1 ∧ xs[j]? = some b ∧ decide (b.stamp.epoch > a.stamp.epoch) = true) := by
  unfold inBad at h
  cases h1 : (a.op != 0) with
  | true => exact .inl rfl
  | false =>
  cases h2 : (a.stamp.turn != 0) with
  | true => exact .inr (.inl ⟨rfl, rfl⟩)
  | false =>
  rw [h1, h2, Bool.false_or, Bool.false_or] at h
  cases i with
  | zero => cases h
  | succ j =>
    have hj : j < xs.length := by have := lt_of ha; omega
    obtain ⟨b, hb⟩ := qag hj
    simp only [hb] at h
    exact .inr (.inr ⟨rfl, rfl, j, b, rfl, hb, h⟩)
theorem inBad_false {xs : List Record} {i : Nat} {a : Record} (ha : xs[i]? = some a) (h : inBad xs i a = false) :
    (a.op != 0) = false ∧ (a.stamp.turn != 0) = false ∧ (i = 0 ∨ ∃ j b, i = j + 1 ∧ xs[j]? = some b ∧ decide (b.stamp.epoch > a.stamp.epoch) = false) := by
  unfold inBad at h
  rw [Bool.or_eq_false_iff, Bool.or_eq_false_iff] at h
  obtain ⟨⟨h1, h2⟩, h⟩ := h
  refine ⟨h1, h2, ?_⟩
  cases i with
  | zero => exact .inl rfl
  | succ j =>
    have hj : j < xs.length := by have := lt_of ha; omega
    obtain ⟨b, hb⟩ := qag hj
    simp only [hb] at h
    exact .inr ⟨j, b, rfl, hb, h⟩
theorem at_prev {α : Type} (f : α → List D) {xs : List α} {j : Nat} {b : α} (h : xs[j]? = some b) : (xs.map f)[(((j + 1 : Nat) : Int) - 1).toNat]? = some (f b) := by
  rw [show (((j + 1 : Nat) : Int) - 1) = (j : Int) by omega]
  exact qae f h
theorem lt_prev {α β : Type} {f : α → β} {xs : List α} {j : Nat} {b : α} (h : xs[j]? = some b) : (((j + 1 : Nat) : Int) - 1) < (↑(xs.map f).length : Int) := by
  have := lt_of h
  rw [List.length_map]; omega
def sumBad (n : Int) : Bool := !inR n (-1000000) 1000000
def doneBad (xs : List Done) (i : Nat) (d : Done) : Bool := !inR d.epoch 0 3 || (xs.take i).any (fun q => q.epoch == d.epoch)
theorem len4 {α β : Type} {f : α → β} {xs : List α} (h : (xs.length == 4) = true) : ((↑(xs.map f).length : Int) != 4) = false := by
  rw [List.length_map, eq_of_beq h]; rfl
theorem len4' {α β : Type} {f : α → β} {xs : List α} (h : (xs.length == 4) = false) : ((↑(xs.map f).length : Int) != 4) = true := by
  rw [List.length_map]
  have := ne_of_beq_false h
  simp only [bne_iff_ne, ne_eq]; omega
def workerOk (g : Graph) (w : Worker) : Bool :=
  recsOk g w.queue && (recsOk g w.staged && (recsOk g w.inputs && (cellsOk w.cells && ((w.sums.length == 4) && ((w.black.length == 4) && ((w.caps.length == 4) && (!anyI (inBad w.inputs) 0 w.inputs && (!(w.sums.any sumBad) && !anyI (doneBad w.dones) 0 w.dones))))))))
theorem Worker.staged_le {w : Worker} (h : w.sz ≤ 1048576) : w.staged.length ≤ 1048576 := by simp only [Worker.sz] at h; omega
theorem Worker.cells_le' {w : Worker} (h : w.sz ≤ 1048576) : w.cells.length ≤ 1048576 := by simp only [Worker.sz] at h; omega
theorem Worker.sums_le {w : Worker} (h : w.sz ≤ 1048576) : w.sums.length ≤ 1048576 := by simp only [Worker.sz] at h; omega
theorem Worker.dones_le' {w : Worker} (h : w.sz ≤ 1048576) : w.dones.length ≤ 1048576 := by simp only [Worker.sz] at h; omega
theorem spec_ins (w : Worker) (hl : w.inputs.length ≤ 1048576) :
    (anyI (inBad w.inputs) 0 w.inputs = false ∧ qac Tryz.prog (qaa Tryz.f173 0) (spec_WorkerOk_L0 (w.queue.map Record.e) (w.staged.map Record.e) (w.inputs.map Record.e) (w.cells.map Cell.e) (w.sums.map eI) (w.black.map eB) (w.caps.map eB) (w.dones.map Done.e) 0) (.exit 0) (spec_WorkerOk_X0v2 (w.queue.map Record.e) (w.staged.map Record.e) (w.inputs.map Record.e) (w.cells.map Cell.e) (w.sums.map eI) (w.black.map eB) (w.caps.map eB) (w.dones.map Done.e))) ∨
    (anyI (inBad w.inputs) 0 w.inputs = true ∧ qac Tryz.prog (qaa Tryz.f173 0) (spec_WorkerOk_L0 (w.queue.map Record.e) (w.staged.map Record.e) (w.inputs.map Record.e) (w.cells.map Cell.e) (w.sums.map eI) (w.black.map eB) (w.caps.map eB) (w.dones.map Done.e) 0) .ret (spec_WorkerOk_X0 false)) :=
  qf3 (P := Tryz.prog) (c := (qaa Tryz.f173 0)) w.inputs (inBad w.inputs) (fun i => spec_WorkerOk_L0 (w.queue.map Record.e) (w.staged.map Record.e) (w.inputs.map Record.e) (w.cells.map Cell.e) (w.sums.map eI) (w.black.map eB) (w.caps.map eB) (w.dones.map Done.e) i) qaD (qah 0)
    (fun i a ha h => by
      have hi := lt_of ha
      obtain ⟨h1, h2, rfl | ⟨j, b, rfl, hb, h3⟩⟩ := inBad_false ha h
      · exact spec_WorkerOk_L0_s4 _ _ _ _ _ _ _ _ _ _ _ _ _ _ _ _ _ _ _ ⟨lt1 (lt_of ha), lt0, lt2 (lt_of ha), qae Record.e ha, h1, lt0, lt2 (lt_of ha), qae Record.e ha, h2, dF (by omega), up1 (lt_of ha) hl, trivial⟩
      · exact spec_WorkerOk_L0_s3 _ _ _ _ _ _ _ _ _ _ _ _ _ _ _ _ _ _ _ _ _ _ _ _ _ _ _ _ _ ⟨lt1 (lt_of ha), lt0, lt2 (lt_of ha), qae Record.e ha, h1, lt0, lt2 (lt_of ha), qae Record.e ha, h2, dT (by omega), ⟨by omega, by omega⟩, by omega, lt_prev hb, at_prev Record.e hb, lt0, lt2 (lt_of ha), qae Record.e ha, h3, up1 (lt_of ha) hl, trivial⟩)
    (fun i a ha h => by
      have hi := lt_of ha
      rcases inBad_true ha h with h1 | ⟨h1, h2⟩ | ⟨h1, h2, j, b, rfl, hb, h3⟩
      · exact spec_WorkerOk_L0_x0 _ _ _ _ _ _ _ _ _ _ _ _ _ _ ⟨lt1 (lt_of ha), lt0, lt2 (lt_of ha), qae Record.e ha, h1, trivial⟩
      · exact spec_WorkerOk_L0_x1 _ _ _ _ _ _ _ _ _ _ _ _ _ _ _ _ _ _ _ ⟨lt1 (lt_of ha), lt0, lt2 (lt_of ha), qae Record.e ha, h1, lt0, lt2 (lt_of ha), qae Record.e ha, h2, trivial⟩
      · exact spec_WorkerOk_L0_x2 _ _ _ _ _ _ _ _ _ _ _ _ _ _ _ _ _ _ _ _ _ _ _ _ _ _ _ _ _ ⟨lt1 (lt_of ha), lt0, lt2 (lt_of ha), qae Record.e ha, h1, lt0, lt2 (lt_of ha), qae Record.e ha, h2, dT (by omega), ⟨by omega, by omega⟩, by omega, lt_prev hb, at_prev Record.e hb, lt0, lt2 (lt_of ha), qae Record.e ha, h3, trivial⟩)
    (spec_WorkerOk_L0_x5 _ _ _ _ _ _ _ _ _ ⟨ge1, trivial⟩)
theorem spec_dones (w : Worker) (hl : w.dones.length ≤ 1048576) :
    (anyI (doneBad w.dones) 0 w.dones = false ∧ qac Tryz.prog (qaa Tryz.f173 2) (spec_WorkerOk_L2 (w.queue.map Record.e) (w.staged.map Record.e) (w.inputs.map Record.e) (w.cells.map Cell.e) (w.sums.map eI) (w.black.map eB) (w.caps.map eB) (w.dones.map Done.e) 0) (.exit 4) spec_WorkerOk_X2v11) ∨
    (anyI (doneBad w.dones) 0 w.dones = true ∧ qac Tryz.prog (qaa Tryz.f173 2) (spec_WorkerOk_L2 (w.queue.map Record.e) (w.staged.map Record.e) (w.inputs.map Record.e) (w.cells.map Cell.e) (w.sums.map eI) (w.black.map eB) (w.caps.map eB) (w.dones.map Done.e) 0) .ret (spec_WorkerOk_X2 false)) := by
  have inner : ∀ (i : Nat) (a : Done), w.dones[i]? = some a →
      (((w.dones.take i).any (fun q => q.epoch == a.epoch)) = false ∧ qac Tryz.prog (qaa Tryz.f173 3) (spec_WorkerOk_L3 (w.queue.map Record.e) (w.staged.map Record.e) (w.inputs.map Record.e) (w.cells.map Cell.e) (w.sums.map eI) (w.black.map eB) (w.caps.map eB) (w.dones.map Done.e) i 0) (.exit 6) (spec_WorkerOk_X3v10 (w.queue.map Record.e) (w.staged.map Record.e) (w.inputs.map Record.e) (w.cells.map Cell.e) (w.sums.map eI) (w.black.map eB) (w.caps.map eB) (w.dones.map Done.e) i)) ∨
      (((w.dones.take i).any (fun q => q.epoch == a.epoch)) = true ∧ qac Tryz.prog (qaa Tryz.f173 3) (spec_WorkerOk_L3 (w.queue.map Record.e) (w.staged.map Record.e) (w.inputs.map Record.e) (w.cells.map Cell.e) (w.sums.map eI) (w.black.map eB) (w.caps.map eB) (w.dones.map Done.e) i 0) .ret (spec_WorkerOk_X3 false)) := by
    intro i a ha
    have hi := lt_of ha
    have hlen : (w.dones.take i).length = i := by rw [List.length_take]; omega
    have tk : ∀ {k : Nat} {b : Done}, (w.dones.take i)[k]? = some b → k < i ∧ w.dones[k]? = some b := fun {k b} h => by
      have hk := lt_of h
      rw [hlen] at hk
      rw [List.getElem?_take, if_pos hk] at h
      exact ⟨hk, h⟩
    have l := qbB (P := Tryz.prog) (c := (qaa Tryz.f173 3)) (w.dones.take i) (fun q => q.epoch == a.epoch) (fun k => spec_WorkerOk_L3 (w.queue.map Record.e) (w.staged.map Record.e) (w.inputs.map Record.e) (w.cells.map Cell.e) (w.sums.map eI) (w.black.map eB) (w.caps.map eB) (w.dones.map Done.e) i k) (X := fun _ _ => spec_WorkerOk_X3 false) qaD (qah 6)
      (fun k b hb h => by
        obtain ⟨hk, hb⟩ := tk hb
        exact spec_WorkerOk_L3_s1 _ _ _ _ _ _ _ _ _ _ _ _ _ _ ⟨dT (by omega), lt0, lt2 (lt_of hb), qae Done.e hb, lt0, lt2 (lt_of ha), qae Done.e ha, h, up1 (lt_of hb) hl, trivial⟩)
      (fun k b hb h => by
        obtain ⟨hk, hb⟩ := tk hb
        exact spec_WorkerOk_L3_x0 _ _ _ _ _ _ _ _ _ _ _ _ _ _ ⟨dT (by omega), lt0, lt2 (lt_of hb), qae Done.e hb, lt0, lt2 (lt_of ha), qae Done.e ha, h, trivial⟩)
      (spec_WorkerOk_L3_x2 _ _ _ _ _ _ _ _ _ _ ⟨dF (by rw [hlen]; omega), trivial⟩)
    rcases l with ⟨_, _, h1, h2⟩ | ⟨_, _, _, _, _, _, h1, h2⟩
    · exact .inl ⟨h1, h2⟩
    · exact .inr ⟨h1, h2⟩
  exact qf3 (P := Tryz.prog) (c := (qaa Tryz.f173 2)) w.dones (doneBad w.dones) (fun i => spec_WorkerOk_L2 (w.queue.map Record.e) (w.staged.map Record.e) (w.inputs.map Record.e) (w.cells.map Cell.e) (w.sums.map eI) (w.black.map eB) (w.caps.map eB) (w.dones.map Done.e) i) qaD (qah 4)
    (fun i a ha h => by
      simp only [doneBad, Bool.or_eq_false_iff, Bool.not_eq_false'] at h
      rcases inner i a ha with ⟨e, l⟩ | ⟨e, l⟩
      · exact spec_WorkerOk_L2_s2 _ _ _ _ _ _ _ _ _ _ _ _ ⟨lt1 (lt_of ha), lt0, lt2 (lt_of ha), qae Done.e ha, qgq _ _ _ true h.1, rfl, l, up1 (lt_of ha) hl, trivial⟩
      · rw [h.2] at e; cases e)
    (fun i a ha h => by
      cases h1 : inR a.epoch 0 3 with
      | false => exact spec_WorkerOk_L2_x0 _ _ _ _ _ _ _ _ _ _ _ _ ⟨lt1 (lt_of ha), lt0, lt2 (lt_of ha), qae Done.e ha, qgq _ _ _ false h1, rfl, trivial⟩
      | true =>
        simp only [doneBad, h1, Bool.not_true, Bool.false_or] at h
        rcases inner i a ha with ⟨e, l⟩ | ⟨e, l⟩
        · rw [h] at e; cases e
        · exact spec_WorkerOk_L2_x1 _ _ _ _ _ _ _ _ _ _ _ _ _ ⟨lt1 (lt_of ha), lt0, lt2 (lt_of ha), qae Done.e ha, qgq _ _ _ true h1, rfl, l, trivial⟩)
    (spec_WorkerOk_L2_x3 _ _ _ _ _ _ _ _ _ ⟨ge1, trivial⟩)
theorem spec_WorkerOk_ret (g : Graph) (w : Worker) (hg : g.sz ≤ 1048576) (hw : w.sz ≤ 1048576) : Ret Tryz.prog 173 [.agg g.e, .agg w.e] [.one (B (workerOk g w))] := by
  unfold workerOk
  cases h1 : recsOk g w.queue with
  | false => exact spec_WorkerOk_p0 _ _ _ _ _ _ _ _ _ _ _ _ ⟨recs_spec g _ _ h1 hg (Worker.queue_le hw), rfl, trivial⟩
  | true =>
  have c1 := recs_spec g _ _ h1 hg (Worker.queue_le hw)
  cases h2 : recsOk g w.staged with
  | false => exact spec_WorkerOk_p1 _ _ _ _ _ _ _ _ _ _ _ _ _ ⟨c1, rfl, recs_spec g _ _ h2 hg (Worker.staged_le hw), rfl, trivial⟩
  | true =>
  have c2 := recs_spec g _ _ h2 hg (Worker.staged_le hw)
  cases h3 : recsOk g w.inputs with
  | false => exact spec_WorkerOk_p2 _ _ _ _ _ _ _ _ _ _ _ _ _ _ ⟨c1, rfl, c2, rfl, recs_spec g _ _ h3 hg (Worker.inputs_le hw), rfl, trivial⟩
  | true =>
  have c3 := recs_spec g _ _ h3 hg (Worker.inputs_le hw)
  cases h4 : cellsOk w.cells with
  | false => exact spec_WorkerOk_p3 _ _ _ _ _ _ _ _ _ _ _ _ _ _ _ ⟨c1, rfl, c2, rfl, c3, rfl, spec_CellsOk_ret' _ _ h4 (Worker.cells_le' hw), rfl, trivial⟩
  | true =>
  have c4 := spec_CellsOk_ret' _ _ h4 (Worker.cells_le' hw)
  cases h5 : (w.sums.length == 4) with
  | false => exact spec_WorkerOk_p4 _ _ _ _ _ _ _ _ _ _ _ _ _ _ _ ⟨c1, rfl, c2, rfl, c3, rfl, c4, rfl, len4' h5, trivial⟩
  | true =>
  cases h6 : (w.black.length == 4) with
  | false => exact spec_WorkerOk_p5 _ _ _ _ _ _ _ _ _ _ _ _ _ _ _ ⟨c1, rfl, c2, rfl, c3, rfl, c4, rfl, len4 h5, len4' h6, trivial⟩
  | true =>
  cases h7 : (w.caps.length == 4) with
  | false => exact spec_WorkerOk_p6 _ _ _ _ _ _ _ _ _ _ _ _ _ _ _ ⟨c1, rfl, c2, rfl, c3, rfl, c4, rfl, len4 h5, len4 h6, len4' h7, trivial⟩
  | true =>
  have hs4 : w.sums.length = 4 := eq_of_beq h5
  rcases spec_ins w (Worker.inputs_le hw) with ⟨h8, l8⟩ | ⟨h8, l8⟩
  case inr => rw [h8]; exact spec_WorkerOk_p7 _ _ _ _ _ _ _ _ _ _ _ _ _ _ _ _ ⟨c1, rfl, c2, rfl, c3, rfl, c4, rfl, len4 h5, len4 h6, len4 h7, l8, trivial⟩
  have l9 := qbB (P := Tryz.prog) (c := (qaa Tryz.f173 1)) w.sums sumBad (fun i => spec_WorkerOk_L1 (w.queue.map Record.e) (w.staged.map Record.e) (w.inputs.map Record.e) (w.cells.map Cell.e) (w.sums.map eI) (w.black.map eB) (w.caps.map eB) (w.dones.map Done.e) i) (X := fun _ _ => spec_WorkerOk_X1 false) qaD (qah 2)
    (fun i a ha h => spec_WorkerOk_L1_s1 _ _ _ _ _ _ _ _ _ _ _ ⟨dT (by have := lt_of ha; omega), lt0, lt2 (lt_of ha), qae eI ha, qgq _ _ _ true (by simpa [sumBad] using h), rfl, up1 (lt_of ha) (Worker.sums_le hw), trivial⟩)
    (fun i a ha h => spec_WorkerOk_L1_x0 _ _ _ _ _ _ _ _ _ _ _ ⟨dT (by have := lt_of ha; omega), lt0, lt2 (lt_of ha), qae eI ha, qgq _ _ _ false (by simpa [sumBad] using h), rfl, trivial⟩)
    (spec_WorkerOk_L1_x2 _ _ _ _ _ _ _ _ _ ⟨dF (by omega), trivial⟩)
  rw [h8]
  rcases l9 with ⟨_, _, h9, l9⟩ | ⟨_, _, _, _, _, _, h9, l9⟩
  case inr => rw [h9]; exact spec_WorkerOk_p8 _ _ _ _ _ _ _ _ _ _ _ _ _ _ _ _ ⟨c1, rfl, c2, rfl, c3, rfl, c4, rfl, len4 h5, len4 h6, len4 h7, l8, l9, trivial⟩
  rw [h9]
  rcases spec_dones w (Worker.dones_le' hw) with ⟨h10, l10⟩ | ⟨h10, l10⟩
  · rw [h10]; exact spec_WorkerOk_p10 _ _ _ _ _ _ _ _ _ _ _ _ _ _ _ ⟨c1, rfl, c2, rfl, c3, rfl, c4, rfl, len4 h5, len4 h6, len4 h7, l8, l9, l10, trivial⟩
  · rw [h10]; exact spec_WorkerOk_p9 _ _ _ _ _ _ _ _ _ _ _ _ _ _ _ _ ⟨c1, rfl, c2, rfl, c3, rfl, c4, rfl, len4 h5, len4 h6, len4 h7, l8, l9, l10, trivial⟩
end Go.Proofs.YtialmplmfcahpaaGreat
