/- PutCell, CellsIn, OutsOnly, OutCells: what program and reference compute. -/
import Derived.Test.YtbbjajmimckabaaC1
import Derived.Test.YtbbjajmimckabaaQ2
set_option linter.unusedVariables false
set_option linter.unusedSimpArgs false
namespace Go.Proofs.Ytbbjajmimckabaa
open Go.Sx Go.RowKit

def hasCell (xs : List Cell) (x : Cell) : Bool := xs.any fun a => decide (a = x)
def placeOf (xs : List Cell) (x : Cell) : Nat := (xs.findIdx? fun a => !decide (cellOrd a x < 0)).getD xs.length
def putCell (xs : List Cell) (x : Cell) : List Cell := if hasCell xs x then xs else xs.take (placeOf xs x) ++ x :: xs.drop (placeOf xs x)

theorem placeOf_le (xs : List Cell) (x : Cell) : placeOf xs x ≤ xs.length := by
  unfold placeOf
  cases h : xs.findIdx? (fun a => !decide (cellOrd a x < 0)) with
  | none => simp
  | some i =>
    rw [List.findIdx?_eq_some_iff_getElem] at h
    have := h.1
    simp
    omega

theorem putCell_le (xs : List Cell) (x : Cell) : (putCell xs x).length ≤ xs.length + 1 := by
  unfold putCell
  split
  · omega
  · have := placeOf_le xs x
    simp
    omega

theorem spec_HasCell_ret (xs : List Cell) (x : Cell) (hl : xs.length ≤ 1048576) : Ret Try.prog 100 [.one (.sl 4 (xs.map Cell.e)), .agg x.e] [.one (B (hasCell xs x))] := by
  have l := loop_scan (P := Try.prog) (c := (loopOf Try.f100 0)) xs (fun a => decide (a = x)) (fun i => spec_HasCell_L0 (xs.map Cell.e) x.op x.epoch x.key x.val i) (X := fun _ _ => spec_HasCell_X0 true) ret_ne (exit_ne 0)
    (fun i a ha h => spec_HasCell_L0_s1 _ _ _ _ _ _ _ _ _ _ ⟨lt1 (lt_of ha), lt0, lt2 (lt_of ha), at_map Cell.e ha, (cellEq a x).trans h, up1 (lt_of ha) hl, trivial⟩)
    (fun i a ha h => spec_HasCell_L0_x0 _ _ _ _ _ _ _ _ _ _ ⟨lt1 (lt_of ha), lt0, lt2 (lt_of ha), at_map Cell.e ha, (cellEq a x).trans h, trivial⟩)
    (spec_HasCell_L0_x2 _ _ _ _ _ _ ⟨ge1, trivial⟩)
  unfold hasCell
  rcases l with ⟨_, _, h1, h2⟩ | ⟨i, a, _, _, _, _, h1, h2⟩
  · rw [h1]; exact spec_HasCell_p1 _ _ _ _ _ ⟨h2, trivial⟩
  · rw [h1]; exact spec_HasCell_p0 _ _ _ _ _ _ ⟨h2, trivial⟩
theorem spec_HasCell_ret' (xs : List Cell) (x : Cell) (r : Bool) (h : hasCell xs x = r) (hl : xs.length ≤ 1048576) : Ret Try.prog 100 [.one (.sl 4 (xs.map Cell.e)), .agg x.e] [.one (B r)] := h ▸ spec_HasCell_ret xs x hl

def idxC (xs : List Cell) (x : Cell) : Int := match xs.findIdx? (fun a => decide (a = x)) with | some i => i | none => -1

theorem idxC_ge (xs : List Cell) (x : Cell) : decide (idxC xs x ≥ 0) = hasCell xs x := by
  unfold idxC hasCell
  cases h : xs.findIdx? (fun a => decide (a = x)) with
  | none =>
    have : xs.any (fun a => decide (a = x)) = false := by
      rw [List.any_eq_false]
      rw [List.findIdx?_eq_none_iff] at h
      exact fun a ha => by simpa using h a ha
    rw [this]; rfl
  | some i =>
    rw [List.findIdx?_eq_some_iff_getElem] at h
    obtain ⟨hi, h2, _⟩ := h
    have : xs.any (fun a => decide (a = x)) = true := List.any_eq_true.2 ⟨_, List.getElem_mem hi, h2⟩
    rw [this]; simp

theorem slices_Index_Cell_ret (xs : List Cell) (x : Cell) (hl : xs.length ≤ 1048576) : Ret Try.prog 150 [.one (.sl 4 (xs.map Cell.e)), .agg x.e] [.one (I (idxC xs x))] := by
  have l := loop_scan (P := Try.prog) (c := (loopOf Try.f150 0)) xs (fun a => decide (a = x)) (fun i => slices_Index_Cell_L0 (xs.map Cell.e) x.op x.epoch x.key x.val i) (X := fun i _ => slices_Index_Cell_X0 i) ret_ne (exit_ne 0)
    (fun i a ha h => slices_Index_Cell_L0_s1 _ _ _ _ _ _ _ _ _ _ ⟨lt1 (lt_of ha), lt0, lt2 (lt_of ha), at_map Cell.e ha, (cellEq' a x).trans h, up1 (lt_of ha) hl, trivial⟩)
    (fun i a ha h => slices_Index_Cell_L0_x0 _ _ _ _ _ _ _ _ _ _ ⟨lt1 (lt_of ha), lt0, lt2 (lt_of ha), at_map Cell.e ha, (cellEq' a x).trans h, trivial⟩)
    (slices_Index_Cell_L0_x2 _ _ _ _ _ _ ⟨ge1, trivial⟩)
  unfold idxC
  rcases l with ⟨_, h1, _, h2⟩ | ⟨i, a, _, _, _, h1, _, h2⟩
  · simp only [h1]; exact slices_Index_Cell_p1 _ _ _ _ _ ⟨h2, trivial⟩
  · simp only [h1]; exact slices_Index_Cell_p0 _ _ _ _ _ _ ⟨h2, trivial⟩

theorem impl_HasCell_ret (xs : List Cell) (x : Cell) (hl : xs.length ≤ 1048576) : Ret Try.prog 103 [.one (.sl 4 (xs.map Cell.e)), .agg x.e] [.one (B (hasCell xs x))] := by
  rw [← idxC_ge]
  exact impl_HasCell_p0 _ _ _ _ _ _ ⟨slices_Contains_Cell_p0 _ _ _ _ _ _ ⟨slices_Index_Cell_ret xs x hl, trivial⟩, trivial⟩
theorem impl_HasCell_ret' (xs : List Cell) (x : Cell) (r : Bool) (h : hasCell xs x = r) (hl : xs.length ≤ 1048576) : Ret Try.prog 103 [.one (.sl 4 (xs.map Cell.e)), .agg x.e] [.one (B r)] := h ▸ impl_HasCell_ret xs x hl

theorem impl_copyCells_ret (xs : List Cell) (hl : xs.length ≤ 1048576) : Ret Try.prog 102 [.one (.sl 4 (xs.map Cell.e))] [.one (.sl 4 (xs.map Cell.e))] :=
  impl_copyCells_p0 _ ⟨by simp; omega, by simp; omega, flat_map _ Cell.flat _, trivial⟩

theorem spec_PutCell_ret (xs : List Cell) (x : Cell) (hl : xs.length ≤ 1048576) : Ret Try.prog 75 [.one (.sl 4 (xs.map Cell.e)), .agg x.e] [.one (.sl 4 ((putCell xs x).map Cell.e))] := by
  unfold putCell
  cases h : hasCell xs x with
  | true =>
    rw [if_pos rfl]
    exact spec_PutCell_p0 _ _ _ _ _ _ ⟨spec_HasCell_ret' xs x true h hl, rfl, by simp; omega, by simp; omega, flat_map _ Cell.flat _, trivial⟩
  | false =>
    rw [if_neg (by simp)]
    have l : LoopOk Try.prog (loopOf Try.f75 0) (spec_PutCell_L0 (xs.map Cell.e) x.op x.epoch x.key x.val 0) (Ex.exit 0) (spec_PutCell_X0 (xs.map Cell.e) x.op x.epoch x.key x.val (placeOf xs x)) := by
      have l := loop_scan (P := Try.prog) (c := (loopOf Try.f75 0)) xs (fun a => !decide (cellOrd a x < 0)) (fun i => spec_PutCell_L0 (xs.map Cell.e) x.op x.epoch x.key x.val i) (X := fun i _ => spec_PutCell_X0 (xs.map Cell.e) x.op x.epoch x.key x.val i) (exit_ne 0) (exit_ne 0)
        (fun i a ha h => spec_PutCell_L0_s0 _ _ _ _ _ _ _ _ _ _ _ ⟨lt1 (lt_of ha), lt0, lt2 (lt_of ha), at_map Cell.e ha, spec_CellOrder_ret a x, by simpa using h, up1 (lt_of ha) hl, trivial⟩)
        (fun i a ha h => spec_PutCell_L0_x1 _ _ _ _ _ _ _ _ _ _ _ ⟨lt1 (lt_of ha), lt0, lt2 (lt_of ha), at_map Cell.e ha, spec_CellOrder_ret a x, by simpa using h, trivial⟩)
        (spec_PutCell_L0_x2 _ _ _ _ _ _ ⟨ge1, trivial⟩)
      unfold placeOf
      rcases l with ⟨_, h1, _, h2⟩ | ⟨i, a, _, _, _, h1, _, h2⟩
      · rw [h1]; exact h2
      · rw [h1]; exact h2
    have hp := placeOf_le xs x
    generalize placeOf xs x = p at *
    refine ret_to (spec_PutCell_p1 _ _ _ _ _ _ _ ⟨spec_HasCell_ret' xs x false h hl, rfl, l, by simp, by simp, by simp; omega, by simp; omega, by simp; omega, ?_, by simp; omega, by simp; omega, flat_one x.flat, by simp, by simp; omega, by simp, by simp; omega, by simp; omega, ?_, trivial⟩) ?_
    · simp only [Option.getD_some, Int.toNat_natCast, Nat.sub_zero, List.drop_zero, ← List.map_take]
      exact flat_map _ Cell.flat _
    · simp only [Option.getD_some, Int.toNat_natCast, ← List.map_take, ← List.map_drop]
      exact flat_map _ Cell.flat _
    · simp only [Option.getD_some, Int.toNat_natCast, Nat.sub_zero, List.drop_zero, List.nil_append, ← List.map_take, ← List.map_drop, List.map_append, List.map_cons, List.append_assoc]
      congr 1
      rw [List.take_of_length_le (by simp)]
      rfl

theorem impl_PutCell_ret (xs : List Cell) (x : Cell) (hl : xs.length ≤ 1048576) : Ret Try.prog 76 [.one (.sl 4 (xs.map Cell.e)), .agg x.e] [.one (.sl 4 ((putCell xs x).map Cell.e))] := by
  have c := impl_copyCells_ret xs hl
  unfold putCell
  cases h : hasCell xs x with
  | true =>
    rw [if_pos rfl]
    exact impl_PutCell_p0 _ _ _ _ _ _ _ ⟨c, impl_HasCell_ret' xs x true h hl, rfl, trivial⟩
  | false =>
    rw [if_neg (by simp)]
    have l : LoopOk Try.prog (loopOf Try.f76 0) (impl_PutCell_L0 (xs.map Cell.e) x.op x.epoch x.key x.val (xs.map Cell.e) 0) (Ex.exit 0) (impl_PutCell_X0 x.op x.epoch x.key x.val (xs.map Cell.e) (placeOf xs x)) := by
      have l := loop_scan (P := Try.prog) (c := (loopOf Try.f76 0)) xs (fun a => !decide (cellOrd a x < 0)) (fun i => impl_PutCell_L0 (xs.map Cell.e) x.op x.epoch x.key x.val (xs.map Cell.e) i) (X := fun i _ => impl_PutCell_X0 x.op x.epoch x.key x.val (xs.map Cell.e) i) (exit_ne 0) (exit_ne 0)
        (fun i a ha h => impl_PutCell_L0_s0 _ _ _ _ _ _ _ _ _ _ _ _ ⟨lt1 (lt_of ha), lt0, lt2 (lt_of ha), at_map Cell.e ha, impl_CellOrder_ret a x, by simpa using h, up1 (lt_of ha) hl, trivial⟩)
        (fun i a ha h => impl_PutCell_L0_x1 _ _ _ _ _ _ _ _ _ _ _ _ ⟨lt1 (lt_of ha), lt0, lt2 (lt_of ha), at_map Cell.e ha, impl_CellOrder_ret a x, by simpa using h, trivial⟩)
        (impl_PutCell_L0_x2 _ _ _ _ _ _ _ ⟨ge1, trivial⟩)
      unfold placeOf
      rcases l with ⟨_, h1, _, h2⟩ | ⟨i, a, _, _, _, h1, _, h2⟩
      · rw [h1]; exact h2
      · rw [h1]; exact h2
    exact impl_PutCell_p1 _ _ _ _ _ _ _ _ _ ⟨c, impl_HasCell_ret' xs x false h hl, rfl, l, slices_Insert_Cell_ret xs x (placeOf xs x) (placeOf_le xs x) hl, trivial⟩

/-! ### CellsIn -/
def addCells (out : List Cell) (xs : List Cell) : List Cell := xs.foldl putCell out
def cellsIn (c : Cluster) : List Cell := c.workers.foldl (fun out w => addCells out w.cells) []

theorem addCells_le : ∀ (xs out : List Cell), (addCells out xs).length ≤ out.length + xs.length
  | [], out => by simp [addCells]
  | x :: xs, out => by
    have h1 := putCell_le out x
    have h2 := addCells_le xs (putCell out x)
    simp only [addCells, List.foldl_cons, List.length_cons] at h2 ⊢
    omega

theorem addAll_le : ∀ (ws : List Worker) (out : List Cell), (ws.foldl (fun out w => addCells out w.cells) out).length ≤ out.length + (ws.map Worker.sz).sum
  | [], out => by simp
  | w :: ws, out => by
    have h1 := addCells_le w.cells out
    have h2 := addAll_le ws (addCells out w.cells)
    have h3 : w.cells.length ≤ w.sz := by simp only [Worker.sz]; omega
    simp only [List.foldl_cons, List.map_cons, List.sum_cons]
    omega

theorem Cluster.workers_sz {c : Cluster} (h : c.sz ≤ 1048576) : (c.workers.map Worker.sz).sum ≤ 1048576 := by
  simp only [Cluster.sz, szS] at h
  omega

theorem cellsIn_le {c : Cluster} (h : c.sz ≤ 1048576) : (cellsIn c).length ≤ 1048576 := by
  have := addAll_le c.workers []
  have := Cluster.workers_sz h
  unfold cellsIn
  simp only [List.length_nil] at *
  omega

/-- What stands behind the first i workers, and behind so many cells of the next. -/
theorem inTo_le {c : Cluster} (h : c.sz ≤ 1048576) {i : Nat} {w : Worker} (hw : c.workers[i]? = some w) (j : Nat) : (addCells (foldTo (fun out w => addCells out w.cells) [] c.workers i) (w.cells.take j)).length ≤ 1048576 := by
  have h1 := addCells_le (w.cells.take j) (foldTo (fun out w => addCells out w.cells) [] c.workers i)
  have h2 := addAll_le (c.workers.take i) []
  have h3 := Cluster.workers_sz h
  have h4 : sumTo Worker.sz c.workers (i + 1) ≤ (c.workers.map Worker.sz).sum := sumTo_le
  rw [sumTo_succ hw] at h4
  have h5 : w.cells.length ≤ w.sz := by simp only [Worker.sz]; omega
  simp only [foldTo, sumTo, List.length_nil, List.length_take] at *
  omega

theorem addTo_succ {out : List Cell} {xs : List Cell} {i : Nat} {a : Cell} (h : xs[i]? = some a) : addCells out (xs.take (i + 1)) = putCell (addCells out (xs.take i)) a := by
  simp [addCells, List.take_add_one, h, List.foldl_append]

theorem spec_CellsIn_ret (c : Cluster) (hc : c.sz ≤ 1048576) : Ret Try.prog 32 [.agg c.e] [.one (.sl 4 ((cellsIn c).map Cell.e))] := by
  have hl : c.workers.length ≤ 1048576 := by have h := hc; simp only [Cluster.sz, szS] at h; omega
  let f := fun (out : List Cell) (w : Worker) => addCells out w.cells
  have inner : ∀ (i : Nat) (w : Worker), c.workers[i]? = some w → LoopOk Try.prog (loopOf Try.f32 1) (spec_CellsIn_L1 (c.graph.nodes.map Node.e) c.graph.workers c.graph.cap (c.workers.map Worker.e) (c.links.map Link.e) (c.tokens.map Token.e) (c.news.map News.e) i (0 : Nat) ((foldTo f [] c.workers i).map Cell.e)) (Ex.exit 2)
      (spec_CellsIn_X1 (c.graph.nodes.map Node.e) c.graph.workers c.graph.cap (c.workers.map Worker.e) (c.links.map Link.e) (c.tokens.map Token.e) (c.news.map News.e) i ((foldTo f [] c.workers (i + 1)).map Cell.e)) := by
    intro i w hw
    have hwl : w.cells.length ≤ 1048576 := by
      have := le_sum (sz := Worker.sz) (mem_of hw)
      have := Cluster.workers_sz hc
      have h5 : w.cells.length ≤ w.sz := by simp only [Worker.sz]; omega
      omega
    have l := loop_upto (P := Try.prog) (c := (loopOf Try.f32 1)) (exit_ne 2) w.cells.length (fun j : Nat => spec_CellsIn_L1 (c.graph.nodes.map Node.e) c.graph.workers c.graph.cap (c.workers.map Worker.e) (c.links.map Link.e) (c.tokens.map Token.e) (c.news.map News.e) i j ((addCells (foldTo f [] c.workers i) (w.cells.take j)).map Cell.e)) (fun j hj => by
      obtain ⟨a, ha⟩ := get_of hj
      have hle := inTo_le hc hw j
      rw [addTo_succ ha]
      exact spec_CellsIn_L1_s0 _ _ _ _ _ _ _ _ _ _ _ _ _ _ _ _ _ _ _ _ _ _ _ _ _ _ _ _ _ _ _ ⟨lt0, lt2 (lt_of hw), at_map Worker.e hw, lt1 hj, lt0, lt2 (lt_of hw), at_map Worker.e hw, lt0, lt2 hj, at_map Cell.e ha, spec_PutCell_ret _ a hle, up1 hj hwl, trivial⟩) (spec_CellsIn_L1_x1 _ _ _ _ _ _ _ _ _ _ _ _ _ _ _ _ _ _ ⟨lt0, lt2 (lt_of hw), at_map Worker.e hw, ge1, trivial⟩)
    rw [List.take_length] at l
    rw [foldTo_succ hw]
    exact l
  have l := loop_upto (P := Try.prog) (c := (loopOf Try.f32 0)) (exit_ne 0) c.workers.length (fun i : Nat => spec_CellsIn_L0 (c.graph.nodes.map Node.e) c.graph.workers c.graph.cap (c.workers.map Worker.e) (c.links.map Link.e) (c.tokens.map Token.e) (c.news.map News.e) i ((foldTo f [] c.workers i).map Cell.e)) (fun i hi => by
    obtain ⟨w, hw⟩ := get_of hi
    exact spec_CellsIn_L0_s0 _ _ _ _ _ _ _ _ _ _ ⟨lt1 hi, inner i w hw, up1 hi hl, trivial⟩) (spec_CellsIn_L0_x1 _ _ _ _ _ _ _ _ _ ⟨ge1, trivial⟩)
  rw [foldTo_all] at l
  exact spec_CellsIn_p0 _ _ _ _ _ _ _ _ ⟨l, trivial⟩

theorem impl_CellsIn_ret (c : Cluster) (hc : c.sz ≤ 1048576) : Ret Try.prog 33 [.agg c.e] [.one (.sl 4 ((cellsIn c).map Cell.e))] := by
  have hl : c.workers.length ≤ 1048576 := by have h := hc; simp only [Cluster.sz, szS] at h; omega
  let f := fun (out : List Cell) (w : Worker) => addCells out w.cells
  have inner : ∀ (i : Nat) (w : Worker), c.workers[i]? = some w → LoopOk Try.prog (loopOf Try.f33 1) (impl_CellsIn_L1 (c.workers.map Worker.e) i (w.cells.map Cell.e) (0 : Nat) ((foldTo f [] c.workers i).map Cell.e)) (Ex.exit 2)
      (impl_CellsIn_X1 (c.workers.map Worker.e) i ((foldTo f [] c.workers (i + 1)).map Cell.e)) := by
    intro i w hw
    have hwl : w.cells.length ≤ 1048576 := by
      have := le_sum (sz := Worker.sz) (mem_of hw)
      have := Cluster.workers_sz hc
      have h5 : w.cells.length ≤ w.sz := by simp only [Worker.sz]; omega
      omega
    have l := loop_upto (P := Try.prog) (c := (loopOf Try.f33 1)) (exit_ne 2) w.cells.length (fun j : Nat => impl_CellsIn_L1 (c.workers.map Worker.e) i (w.cells.map Cell.e) j ((addCells (foldTo f [] c.workers i) (w.cells.take j)).map Cell.e)) (fun j hj => by
      obtain ⟨a, ha⟩ := get_of hj
      have hle := inTo_le hc hw j
      rw [addTo_succ ha]
      exact impl_CellsIn_L1_s0 _ _ _ _ _ _ _ _ _ _ ⟨lt1 hj, lt0, lt2 hj, at_map Cell.e ha, impl_PutCell_ret _ a hle, up1 hj hwl, trivial⟩) (impl_CellsIn_L1_x1 _ _ _ _ _ ⟨ge1, trivial⟩)
    rw [List.take_length] at l
    rw [foldTo_succ hw]
    exact l
  have l := loop_upto (P := Try.prog) (c := (loopOf Try.f33 0)) (exit_ne 0) c.workers.length (fun i : Nat => impl_CellsIn_L0 (c.workers.map Worker.e) i ((foldTo f [] c.workers i).map Cell.e)) (fun i hi => by
    obtain ⟨w, hw⟩ := get_of hi
    exact impl_CellsIn_L0_s0 _ _ _ _ _ _ _ _ _ _ _ _ ⟨lt1 hi, lt0, lt2 hi, at_map Worker.e hw, inner i w hw, up1 hi hl, trivial⟩) (impl_CellsIn_L0_x1 _ _ _ ⟨ge1, trivial⟩)
  rw [foldTo_all] at l
  exact impl_CellsIn_p0 _ _ _ _ _ _ _ _ ⟨l, trivial⟩
end Go.Proofs.Ytbbjajmimckabaa
