/- PutCell, CellsIn, OutsOnly, OutCells: what program and reference compute. -/
import Derived.Test.YtenekpkjlgddnaaC0
import Derived.Test.YtenekpkjlgddnaaQ2
set_option linter.unusedVariables false
set_option linter.unusedSimpArgs false
namespace Go.Proofs.Ytenekpkjlgddnaa
open Go.Sx Go.RowKit

def hasCell (xs : List Cell) (x : Cell) : Bool := xs.any fun a => decide (a = x)
def placeOf (xs : List Cell) (x : Cell) : Nat := (xs.findIdx? fun a => !decide (cellOrd a x < 0)).getD xs.length
def putCell (xs : List Cell) (x : Cell) : List Cell := if hasCell xs x then xs else xs.take (placeOf xs x) ++ x :: xs.drop (placeOf xs x)

theorem placeOf_le (xs : List Cell) (x : Cell) : placeOf xs x ≤ xs.length := by
  unfold placeOf
  cases h : xs.findIdx? (fun a => !decide (cellOrd a x < 0)) with
  | none => simp
  | some i =>
    rw [List.findIdx?_eq_some_iff_getElem] at h
    have := h.1
    simp
    omega

theorem putCell_le (xs : List Cell) (x : Cell) : (putCell xs x).length ≤ xs.length + 1 := by
  unfold putCell
  split
  · omega
  · have := placeOf_le xs x
    simp
    omega

theorem spec_HasCell_ret (xs : List Cell) (x : Cell) (hl : xs.length ≤ 8388608) : Ret Try.prog 94 [.one (.sl 4 (xs.map Cell.e)), .agg x.e] [.one (B (hasCell xs x))] := by
  have l := loop_scan (P := Try.prog) (c := (loopOf Try.f94 0)) xs (fun a => decide (a = x)) (fun i => spec_HasCell_L0 (xs.map Cell.e) x.op x.epoch x.key x.val i) (X := fun _ _ => spec_HasCell_X0 true) ret_ne (exit_ne 0)
    (fun i a ha h => spec_HasCell_L0_s1 _ _ _ _ _ _ _ _ _ _ ⟨lt1 (lt_of ha), lt0, lt2 (lt_of ha), at_map Cell.e ha, (cellEq a x).trans h, up1 (lt_of ha) hl, trivial⟩)
    (fun i a ha h => spec_HasCell_L0_x0 _ _ _ _ _ _ _ _ _ _ ⟨lt1 (lt_of ha), lt0, lt2 (lt_of ha), at_map Cell.e ha, (cellEq a x).trans h, trivial⟩)
    (spec_HasCell_L0_x2 _ _ _ _ _ _ ⟨ge1, trivial⟩)
  unfold hasCell
  rcases l with ⟨_, _, h1, h2⟩ | ⟨i, a, _, _, _, _, h1, h2⟩
  · rw [h1]; exact spec_HasCell_p1 _ _ _ _ _ ⟨h2, trivial⟩
  · rw [h1]; exact spec_HasCell_p0 _ _ _ _ _ _ ⟨h2, trivial⟩
theorem spec_HasCell_ret' (xs : List Cell) (x : Cell) (r : Bool) (h : hasCell xs x = r) (hl : xs.length ≤ 8388608) : Ret Try.prog 94 [.one (.sl 4 (xs.map Cell.e)), .agg x.e] [.one (B r)] := h ▸ spec_HasCell_ret xs x hl

def idxC (xs : List Cell) (x : Cell) : Int := match xs.findIdx? (fun a => decide (a = x)) with | some i => i | none => -1

theorem idxC_ge (xs : List Cell) (x : Cell) : decide (idxC xs x ≥ 0) = hasCell xs x := by
  unfold idxC hasCell
  cases h : xs.findIdx? (fun a => decide (a = x)) with
  | none =>
    have : xs.any (fun a => decide (a = x)) = false := by
      rw [List.any_eq_false]
      rw [List.findIdx?_eq_none_iff] at h
      exact fun a ha => by simpa using h a ha
    rw [this]; rfl
  | some i =>
    rw [List.findIdx?_eq_some_iff_getElem] at h
    obtain ⟨hi, h2, _⟩ := h
    have : xs.any (fun a => decide (a = x)) = true := List.any_eq_true.2 ⟨_, List.getElem_mem hi, h2⟩
    rw [this]; simp

theorem slices_Index_Cell_ret (xs : List Cell) (x : Cell) (hl : xs.length ≤ 8388608) : Ret Try.prog 111 [.one (.sl 4 (xs.map Cell.e)), .agg x.e] [.one (I (idxC xs x))] := by
  have l := loop_scan (P := Try.prog) (c := (loopOf Try.f111 0)) xs (fun a => decide (a = x)) (fun i => slices_Index_Cell_L0 (xs.map Cell.e) x.op x.epoch x.key x.val i) (X := fun i _ => slices_Index_Cell_X0 i) ret_ne (exit_ne 0)
    (fun i a ha h => slices_Index_Cell_L0_s1 _ _ _ _ _ _ _ _ _ _ ⟨lt1 (lt_of ha), lt0, lt2 (lt_of ha), at_map Cell.e ha, (cellEq' a x).trans h, up1 (lt_of ha) hl, trivial⟩)
    (fun i a ha h => slices_Index_Cell_L0_x0 _ _ _ _ _ _ _ _ _ _ ⟨lt1 (lt_of ha), lt0, lt2 (lt_of ha), at_map Cell.e ha, (cellEq' a x).trans h, trivial⟩)
    (slices_Index_Cell_L0_x2 _ _ _ _ _ _ ⟨ge1, trivial⟩)
  unfold idxC
  rcases l with ⟨_, h1, _, h2⟩ | ⟨i, a, _, _, _, h1, _, h2⟩
  · simp only [h1]; exact slices_Index_Cell_p1 _ _ _ _ _ ⟨h2, trivial⟩
  · simp only [h1]; exact slices_Index_Cell_p0 _ _ _ _ _ _ ⟨h2, trivial⟩

theorem impl_HasCell_ret (xs : List Cell) (x : Cell) (hl : xs.length ≤ 8388608) : Ret Try.prog 69 [.one (.sl 4 (xs.map Cell.e)), .agg x.e] [.one (B (hasCell xs x))] := by
  rw [← idxC_ge]
  exact impl_HasCell_p0 _ _ _ _ _ _ ⟨slices_Contains_Cell_p0 _ _ _ _ _ _ ⟨slices_Index_Cell_ret xs x hl, trivial⟩, trivial⟩
theorem impl_HasCell_ret' (xs : List Cell) (x : Cell) (r : Bool) (h : hasCell xs x = r) (hl : xs.length ≤ 8388608) : Ret Try.prog 69 [.one (.sl 4 (xs.map Cell.e)), .agg x.e] [.one (B r)] := h ▸ impl_HasCell_ret xs x hl

theorem impl_copyCells_ret (xs : List Cell) (hl : xs.length ≤ 8388608) : Ret Try.prog 44 [.one (.sl 4 (xs.map Cell.e))] [.one (.sl 4 (xs.map Cell.e))] :=
  impl_copyCells_p0 _ ⟨by simp; omega, by simp; omega, flat_map _ Cell.flat _, trivial⟩

theorem spec_PutCell_ret (xs : List Cell) (x : Cell) (hl : xs.length ≤ 8388608) : Ret Try.prog 95 [.one (.sl 4 (xs.map Cell.e)), .agg x.e] [.one (.sl 4 ((putCell xs x).map Cell.e))] := by
  unfold putCell
  cases h : hasCell xs x with
  | true =>
    rw [if_pos rfl]
    exact spec_PutCell_p0 _ _ _ _ _ _ ⟨spec_HasCell_ret' xs x true h hl, rfl, by simp; omega, by simp; omega, flat_map _ Cell.flat _, trivial⟩
  | false =>
    rw [if_neg (by simp)]
    have l : LoopOk Try.prog (loopOf Try.f95 0) (spec_PutCell_L0 (xs.map Cell.e) x.op x.epoch x.key x.val 0) (Ex.exit 0) (spec_PutCell_X0 (xs.map Cell.e) x.op x.epoch x.key x.val (placeOf xs x)) := by
      have l := loop_scan (P := Try.prog) (c := (loopOf Try.f95 0)) xs (fun a => !decide (cellOrd a x < 0)) (fun i => spec_PutCell_L0 (xs.map Cell.e) x.op x.epoch x.key x.val i) (X := fun i _ => spec_PutCell_X0 (xs.map Cell.e) x.op x.epoch x.key x.val i) (exit_ne 0) (exit_ne 0)
        (fun i a ha h => spec_PutCell_L0_s0 _ _ _ _ _ _ _ _ _ _ _ ⟨lt1 (lt_of ha), lt0, lt2 (lt_of ha), at_map Cell.e ha, spec_CellOrder_ret a x, by simpa using h, up1 (lt_of ha) hl, trivial⟩)
        (fun i a ha h => spec_PutCell_L0_x1 _ _ _ _ _ _ _ _ _ _ _ ⟨lt1 (lt_of ha), lt0, lt2 (lt_of ha), at_map Cell.e ha, spec_CellOrder_ret a x, by simpa using h, trivial⟩)
        (spec_PutCell_L0_x2 _ _ _ _ _ _ ⟨ge1, trivial⟩)
      unfold placeOf
      rcases l with ⟨_, h1, _, h2⟩ | ⟨i, a, _, _, _, h1, _, h2⟩
      · rw [h1]; exact h2
      · rw [h1]; exact h2
    have hp := placeOf_le xs x
    generalize placeOf xs x = p at *
    refine ret_to (spec_PutCell_p1 _ _ _ _ _ _ _ ⟨spec_HasCell_ret' xs x false h hl, rfl, l, by simp, by simp, by simp; omega, by simp; omega, by simp; omega, ?_, by simp; omega, by simp; omega, flat_one x.flat, by simp, by simp; omega, by simp, by simp; omega, by simp; omega, ?_, trivial⟩) ?_
    · simp only [Option.getD_some, Int.toNat_natCast, Nat.sub_zero, List.drop_zero, ← List.map_take]
      exact flat_map _ Cell.flat _
    · simp only [Option.getD_some, Int.toNat_natCast, ← List.map_take, ← List.map_drop]
      exact flat_map _ Cell.flat _
    · simp only [Option.getD_some, Int.toNat_natCast, Nat.sub_zero, List.drop_zero, List.nil_append, ← List.map_take, ← List.map_drop, List.map_append, List.map_cons, List.append_assoc]
      congr 1
      rw [List.take_of_length_le (by simp)]
      rfl

theorem impl_PutCell_ret (xs : List Cell) (x : Cell) (hl : xs.length ≤ 8388608) : Ret Try.prog 68 [.one (.sl 4 (xs.map Cell.e)), .agg x.e] [.one (.sl 4 ((putCell xs x).map Cell.e))] := by
  have c := impl_copyCells_ret xs hl
  unfold putCell
  cases h : hasCell xs x with
  | true =>
    rw [if_pos rfl]
    exact impl_PutCell_p0 _ _ _ _ _ _ _ ⟨c, impl_HasCell_ret' xs x true h hl, rfl, trivial⟩
  | false =>
    rw [if_neg (by simp)]
    have l : LoopOk Try.prog (loopOf Try.f68 0) (impl_PutCell_L0 (xs.map Cell.e) x.op x.epoch x.key x.val (xs.map Cell.e) 0) (Ex.exit 0) (impl_PutCell_X0 x.op x.epoch x.key x.val (xs.map Cell.e) (placeOf xs x)) := by
      have l := loop_scan (P := Try.prog) (c := (loopOf Try.f68 0)) xs (fun a => !decide (cellOrd a x < 0)) (fun i => impl_PutCell_L0 (xs.map Cell.e) x.op x.epoch x.key x.val (xs.map Cell.e) i) (X := fun i _ => impl_PutCell_X0 x.op x.epoch x.key x.val (xs.map Cell.e) i) (exit_ne 0) (exit_ne 0)
        (fun i a ha h => impl_PutCell_L0_s0 _ _ _ _ _ _ _ _ _ _ _ _ ⟨lt1 (lt_of ha), lt0, lt2 (lt_of ha), at_map Cell.e ha, impl_CellOrder_ret a x, by simpa using h, up1 (lt_of ha) hl, trivial⟩)
        (fun i a ha h => impl_PutCell_L0_x1 _ _ _ _ _ _ _ _ _ _ _ _ ⟨lt1 (lt_of ha), lt0, lt2 (lt_of ha), at_map Cell.e ha, impl_CellOrder_ret a x, by simpa using h, trivial⟩)
        (impl_PutCell_L0_x2 _ _ _ _ _ _ _ ⟨ge1, trivial⟩)
      unfold placeOf
      rcases l with ⟨_, h1, _, h2⟩ | ⟨i, a, _, _, _, h1, _, h2⟩
      · rw [h1]; exact h2
      · rw [h1]; exact h2
    exact impl_PutCell_p1 _ _ _ _ _ _ _ _ _ ⟨c, impl_HasCell_ret' xs x false h hl, rfl, l, slices_Insert_Cell_ret xs x (placeOf xs x) (placeOf_le xs x) hl, trivial⟩

/-! ### CellsIn -/
end Go.Proofs.Ytenekpkjlgddnaa

namespace Go.Proofs.Ytenekpkjlgddnaa
open Go.Sx Go.RowKit

def nodeAt (g : Graph) (op : Int) : Option Node := if 0 ≤ op then g.nodes[op.toNat]? else none
theorem nodeAt_some {g : Graph} {a : Int} {w : Node} (h : nodeAt g a = some w) : 0 ≤ a ∧ a < (↑(g.nodes.map Node.e).length : Int) ∧ (g.nodes.map Node.e)[a.toNat]? = some w.e ∧ inR a 0 (↑(g.nodes.map Node.e).length - 1) = true := by
  unfold nodeAt at h
  split at h
  · have := (List.getElem?_eq_some_iff.1 h).1
    refine ⟨‹_›, by simp; omega, by simp [h], ?_⟩
    simp only [inR, List.length_map, decide_eq_true_eq]; omega
  · cases h

theorem nodeAt_none {g : Graph} {a : Int} (h : nodeAt g a = none) : inR a 0 (↑(g.nodes.map Node.e).length - 1) = false := by
  unfold nodeAt at h
  simp only [inR, List.length_map, decide_eq_false_iff_not]
  split at h
  · rw [List.getElem?_eq_none_iff] at h; omega
  · omega

theorem nodeAt_mem {g : Graph} {a : Int} {w : Node} (h : nodeAt g a = some w) : w ∈ g.nodes := by
  unfold nodeAt at h
  split at h
  · exact List.mem_of_getElem? h
  · cases h

theorem Graph.nodes_le {g : Graph} (h : g.sz ≤ 8388608) : g.nodes.length ≤ 8388608 := by simp only [Graph.sz, szS] at h; omega
theorem Graph.outs_le {g : Graph} (h : g.sz ≤ 8388608) {w : Node} (hw : w ∈ g.nodes) : w.outs.length ≤ 8388608 := by
  have := le_sum (sz := Node.sz) hw
  simp only [Graph.sz, szS] at h
  have h5 : w.outs.length ≤ w.sz := by simp only [Node.sz]; omega
  omega

theorem up_nodes {g : Graph} (h : g.sz ≤ 8388608) : inInt .i64 ((↑(g.nodes.map Node.e).length : Int) - 1) := by
  have := Graph.nodes_le h
  exact ⟨by simp; omega, by simp; omega⟩

theorem impl_isNode_ret (g : Graph) (op : Int) (hg : g.sz ≤ 8388608) : Ret Try.prog 42 [.agg g.e, .one (I op)] [.one (B (nodeAt g op).isSome)] := by
  cases h : nodeAt g op with
  | none => exact impl_isNode_p0 _ _ _ _ _ ⟨up_nodes hg, impl_within_ret' _ _ _ _ (nodeAt_none h), trivial⟩
  | some w => exact impl_isNode_p0 _ _ _ _ _ ⟨up_nodes hg, impl_within_ret' _ _ _ _ (nodeAt_some h).2.2.2, trivial⟩
theorem impl_isNode_ret' (g : Graph) (op : Int) (r : Bool) (h : (nodeAt g op).isSome = r) (hg : g.sz ≤ 8388608) : Ret Try.prog 42 [.agg g.e, .one (I op)] [.one (B r)] := h ▸ impl_isNode_ret g op hg

def nodeOf (g : Graph) (op : Int) : Node × Bool := match nodeAt g op with | some n => (n, true) | none => (⟨0, 0, 0, []⟩, false)

theorem eI_flat (n : Int) : ∀ d ∈ eI n, ∃ x, d = .v x := by
  intro d hd
  simp only [eI, List.mem_cons, List.not_mem_nil, or_false] at hd
  subst hd; exact ⟨_, rfl⟩

theorem spec_NodeOf_ret (g : Graph) (op : Int) (hg : g.sz ≤ 8388608) : Ret Try.prog 74 [.agg g.e, .one (I op)] [.agg (nodeOf g op).1.e, .one (B (nodeOf g op).2)] := by
  unfold nodeOf
  cases h : nodeAt g op with
  | none => exact spec_NodeOf_p0 _ _ _ _ _ ⟨up_nodes hg, spec_l01In_ret' _ _ _ _ (nodeAt_none h), rfl, trivial⟩
  | some w =>
    obtain ⟨h1, h2, h3, h4⟩ := nodeAt_some h
    have ho := Graph.outs_le hg (nodeAt_mem h)
    exact spec_NodeOf_p1 _ _ _ _ _ _ _ _ _ ⟨up_nodes hg, spec_l01In_ret' _ _ _ _ h4, rfl, h1, h2, h3, by simp; omega, by simp; omega, flat_map _ eI_flat _, trivial⟩
theorem spec_NodeOf_ret' (g : Graph) (op : Int) (r : Node × Bool) (h : nodeOf g op = r) (hg : g.sz ≤ 8388608) : Ret Try.prog 74 [.agg g.e, .one (I op)] [.agg r.1.e, .one (B r.2)] := h ▸ spec_NodeOf_ret g op hg

end Go.Proofs.Ytenekpkjlgddnaa
