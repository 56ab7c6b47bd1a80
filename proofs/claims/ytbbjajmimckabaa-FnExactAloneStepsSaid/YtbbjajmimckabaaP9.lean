/- PutCell, CellsIn, OutsOnly, OutCells: what program and reference compute. -/
import Derived.Test.YtbbjajmimckabaaC0
import Derived.Test.YtbbjajmimckabaaQ2
set_option linter.unusedVariables false
set_option linter.unusedSimpArgs false
namespace Go.Proofs.Ytbbjajmimckabaa
open Go.Sx Go.RowKit

def hasCell (xs : List Cell) (x : Cell) : Bool := xs.any fun a => decide (a = x)
def placeOf (xs : List Cell) (x : Cell) : Nat := (xs.findIdx? fun a => !decide (cellOrd a x < 0)).getD xs.length
def putCell (xs : List Cell) (x : Cell) : List Cell := if hasCell xs x then xs else xs.take (placeOf xs x) ++ x :: xs.drop (placeOf xs x)

theorem placeOf_le (xs : List Cell) (x : Cell) : placeOf xs x ≤ xs.length := by
  unfold placeOf
  cases h : xs.findIdx? (fun a => !decide (cellOrd a x < 0)) with
  | none => simp
  | some i =>
    rw [List.findIdx?_eq_some_iff_getElem] at h
    have := h.1
    simp
    omega

theorem putCell_le (xs : List Cell) (x : Cell) : (putCell xs x).length ≤ xs.length + 1 := by
  unfold putCell
  split
  · omega
  · have := placeOf_le xs x
    simp
    omega

theorem spec_HasCell_ret (xs : List Cell) (x : Cell) (hl : xs.length ≤ 1048576) : Ret Try.prog 100 [.one (.sl 4 (xs.map Cell.e)), .agg x.e] [.one (B (hasCell xs x))] := by
  have l := loop_scan (P := Try.prog) (c := (loopOf Try.f100 0)) xs (fun a => decide (a = x)) (fun i => spec_HasCell_L0 (xs.map Cell.e) x.op x.epoch x.key x.val i) (X := fun _ _ => spec_HasCell_X0 true) ret_ne (exit_ne 0)
    (fun i a ha h => spec_HasCell_L0_s1 _ _ _ _ _ _ _ _ _ _ ⟨lt1 (lt_of ha), lt0, lt2 (lt_of ha), at_map Cell.e ha, (cellEq a x).trans h, up1 (lt_of ha) hl, trivial⟩)
    (fun i a ha h => spec_HasCell_L0_x0 _ _ _ _ _ _ _ _ _ _ ⟨lt1 (lt_of ha), lt0, lt2 (lt_of ha), at_map Cell.e ha, (cellEq a x).trans h, trivial⟩)
    (spec_HasCell_L0_x2 _ _ _ _ _ _ ⟨ge1, trivial⟩)
  unfold hasCell
  rcases l with ⟨_, _, h1, h2⟩ | ⟨i, a, _, _, _, _, h1, h2⟩
  · rw [h1]; exact spec_HasCell_p1 _ _ _ _ _ ⟨h2, trivial⟩
  · rw [h1]; exact spec_HasCell_p0 _ _ _ _ _ _ ⟨h2, trivial⟩
theorem spec_HasCell_ret' (xs : List Cell) (x : Cell) (r : Bool) (h : hasCell xs x = r) (hl : xs.length ≤ 1048576) : Ret Try.prog 100 [.one (.sl 4 (xs.map Cell.e)), .agg x.e] [.one (B r)] := h ▸ spec_HasCell_ret xs x hl

def idxC (xs : List Cell) (x : Cell) : Int := match xs.findIdx? (fun a => decide (a = x)) with | some i => i | none => -1

theorem idxC_ge (xs : List Cell) (x : Cell) : decide (idxC xs x ≥ 0) = hasCell xs x := by
  unfold idxC hasCell
  cases h : xs.findIdx? (fun a => decide (a = x)) with
  | none =>
    have : xs.any (fun a => decide (a = x)) = false := by
      rw [List.any_eq_false]
      rw [List.findIdx?_eq_none_iff] at h
      exact fun a ha => by simpa using h a ha
    rw [this]; rfl
  | some i =>
    rw [List.findIdx?_eq_some_iff_getElem] at h
    obtain ⟨hi, h2, _⟩ := h
    have : xs.any (fun a => decide (a = x)) = true := List.any_eq_true.2 ⟨_, List.getElem_mem hi, h2⟩
    rw [this]; simp

theorem slices_Index_Cell_ret (xs : List Cell) (x : Cell) (hl : xs.length ≤ 1048576) : Ret Try.prog 150 [.one (.sl 4 (xs.map Cell.e)), .agg x.e] [.one (I (idxC xs x))] := by
  have l := loop_scan (P := Try.prog) (c := (loopOf Try.f150 0)) xs (fun a => decide (a = x)) (fun i => slices_Index_Cell_L0 (xs.map Cell.e) x.op x.epoch x.key x.val i) (X := fun i _ => slices_Index_Cell_X0 i) ret_ne (exit_ne 0)
    (fun i a ha h => slices_Index_Cell_L0_s1 _ _ _ _ _ _ _ _ _ _ ⟨lt1 (lt_of ha), lt0, lt2 (lt_of ha), at_map Cell.e ha, (cellEq' a x).trans h, up1 (lt_of ha) hl, trivial⟩)
    (fun i a ha h => slices_Index_Cell_L0_x0 _ _ _ _ _ _ _ _ _ _ ⟨lt1 (lt_of ha), lt0, lt2 (lt_of ha), at_map Cell.e ha, (cellEq' a x).trans h, trivial⟩)
    (slices_Index_Cell_L0_x2 _ _ _ _ _ _ ⟨ge1, trivial⟩)
  unfold idxC
  rcases l with ⟨_, h1, _, h2⟩ | ⟨i, a, _, _, _, h1, _, h2⟩
  · simp only [h1]; exact slices_Index_Cell_p1 _ _ _ _ _ ⟨h2, trivial⟩
  · simp only [h1]; exact slices_Index_Cell_p0 _ _ _ _ _ _ ⟨h2, trivial⟩

theorem impl_HasCell_ret (xs : List Cell) (x : Cell) (hl : xs.length ≤ 1048576) : Ret Try.prog 103 [.one (.sl 4 (xs.map Cell.e)), .agg x.e] [.one (B (hasCell xs x))] := by
  rw [← idxC_ge]
  exact impl_HasCell_p0 _ _ _ _ _ _ ⟨slices_Contains_Cell_p0 _ _ _ _ _ _ ⟨slices_Index_Cell_ret xs x hl, trivial⟩, trivial⟩
theorem impl_HasCell_ret' (xs : List Cell) (x : Cell) (r : Bool) (h : hasCell xs x = r) (hl : xs.length ≤ 1048576) : Ret Try.prog 103 [.one (.sl 4 (xs.map Cell.e)), .agg x.e] [.one (B r)] := h ▸ impl_HasCell_ret xs x hl

theorem impl_copyCells_ret (xs : List Cell) (hl : xs.length ≤ 1048576) : Ret Try.prog 102 [.one (.sl 4 (xs.map Cell.e))] [.one (.sl 4 (xs.map Cell.e))] :=
  impl_copyCells_p0 _ ⟨by simp; omega, by simp; omega, flat_map _ Cell.flat _, trivial⟩

theorem spec_PutCell_ret (xs : List Cell) (x : Cell) (hl : xs.length ≤ 1048576) : Ret Try.prog 75 [.one (.sl 4 (xs.map Cell.e)), .agg x.e] [.one (.sl 4 ((putCell xs x).map Cell.e))] := by
  unfold putCell
  cases h : hasCell xs x with
  | true =>
    rw [if_pos rfl]
    exact spec_PutCell_p0 _ _ _ _ _ _ ⟨spec_HasCell_ret' xs x true h hl, rfl, by simp; omega, by simp; omega, flat_map _ Cell.flat _, trivial⟩
  | false =>
    rw [if_neg (by simp)]
    have l : LoopOk Try.prog (loopOf Try.f75 0) (spec_PutCell_L0 (xs.map Cell.e) x.op x.epoch x.key x.val 0) (Ex.exit 0) (spec_PutCell_X0 (xs.map Cell.e) x.op x.epoch x.key x.val (placeOf xs x)) := by
      have l := loop_scan (P := Try.prog) (c := (loopOf Try.f75 0)) xs (fun a => !decide (cellOrd a x < 0)) (fun i => spec_PutCell_L0 (xs.map Cell.e) x.op x.epoch x.key x.val i) (X := fun i _ => spec_PutCell_X0 (xs.map Cell.e) x.op x.epoch x.key x.val i) (exit_ne 0) (exit_ne 0)
        (fun i a ha h => spec_PutCell_L0_s0 _ _ _ _ _ _ _ _ _ _ _ ⟨lt1 (lt_of ha), lt0, lt2 (lt_of ha), at_map Cell.e ha, spec_CellOrder_ret a x, by simpa using h, up1 (lt_of ha) hl, trivial⟩)
        (fun i a ha h => spec_PutCell_L0_x1 _ _ _ _ _ _ _ _ _ _ _ ⟨lt1 (lt_of ha), lt0, lt2 (lt_of ha), at_map Cell.e ha, spec_CellOrder_ret a x, by simpa using h, trivial⟩)
        (spec_PutCell_L0_x2 _ _ _ _ _ _ ⟨ge1, trivial⟩)
      unfold placeOf
      rcases l with ⟨_, h1, _, h2⟩ | ⟨i, a, _, _, _, h1, _, h2⟩
      · rw [h1]; exact h2
      · rw [h1]; exact h2
    have hp := placeOf_le xs x
    generalize placeOf xs x = p at *
    refine ret_to (spec_PutCell_p1 _ _ _ _ _ _ _ ⟨spec_HasCell_ret' xs x false h hl, rfl, l, by simp, by simp, by simp; omega, by simp; omega, by simp; omega, ?_, by simp; omega, by simp; omega, flat_one x.flat, by simp, by simp; omega, by simp, by simp; omega, by simp; omega, ?_, trivial⟩) ?_
    · simp only [Option.getD_some, Int.toNat_natCast, Nat.sub_zero, List.drop_zero, ← List.map_take]
      exact flat_map _ Cell.flat _
    · simp only [Option.getD_some, Int.toNat_natCast, ← List.map_take, ← List.map_drop]
      exact flat_map _ Cell.flat _
    · simp only [Option.getD_some, Int.toNat_natCast, Nat.sub_zero, List.drop_zero, List.nil_append, ← List.map_take, ← List.map_drop, List.map_append, List.map_cons, List.append_assoc]
      congr 1
      rw [List.take_of_length_le (by simp)]
      rfl

theorem impl_PutCell_ret (xs : List Cell) (x : Cell) (hl : xs.length ≤ 1048576) : Ret Try.prog 76 [.one (.sl 4 (xs.map Cell.e)), .agg x.e] [.one (.sl 4 ((putCell xs x).map Cell.e))] := by
  have c := impl_copyCells_ret xs hl
  unfold putCell
  cases h : hasCell xs x with
  | true =>
    rw [if_pos rfl]
    exact impl_PutCell_p0 _ _ _ _ _ _ _ ⟨c, impl_HasCell_ret' xs x true h hl, rfl, trivial⟩
  | false =>
    rw [if_neg (by simp)]
    have l : LoopOk Try.prog (loopOf Try.f76 0) (impl_PutCell_L0 (xs.map Cell.e) x.op x.epoch x.key x.val (xs.map Cell.e) 0) (Ex.exit 0) (impl_PutCell_X0 x.op x.epoch x.key x.val (xs.map Cell.e) (placeOf xs x)) := by
      have l := loop_scan (P := Try.prog) (c := (loopOf Try.f76 0)) xs (fun a => !decide (cellOrd a x < 0)) (fun i => impl_PutCell_L0 (xs.map Cell.e) x.op x.epoch x.key x.val (xs.map Cell.e) i) (X := fun i _ => impl_PutCell_X0 x.op x.epoch x.key x.val (xs.map Cell.e) i) (exit_ne 0) (exit_ne 0)
        (fun i a ha h => impl_PutCell_L0_s0 _ _ _ _ _ _ _ _ _ _ _ _ ⟨lt1 (lt_of ha), lt0, lt2 (lt_of ha), at_map Cell.e ha, impl_CellOrder_ret a x, by simpa using h, up1 (lt_of ha) hl, trivial⟩)
        (fun i a ha h => impl_PutCell_L0_x1 _ _ _ _ _ _ _ _ _ _ _ _ ⟨lt1 (lt_of ha), lt0, lt2 (lt_of ha), at_map Cell.e ha, impl_CellOrder_ret a x, by simpa using h, trivial⟩)
        (impl_PutCell_L0_x2 _ _ _ _ _ _ _ ⟨ge1, trivial⟩)
      unfold placeOf
      rcases l with ⟨_, h1, _, h2⟩ | ⟨i, a, _, _, _, h1, _, h2⟩
      · rw [h1]; exact h2
      · rw [h1]; exact h2
    exact impl_PutCell_p1 _ _ _ _ _ _ _ _ _ ⟨c, impl_HasCell_ret' xs x false h hl, rfl, l, slices_Insert_Cell_ret xs x (placeOf xs x) (placeOf_le xs x) hl, trivial⟩

/-! ### CellsIn -/
end Go.Proofs.Ytbbjajmimckabaa
