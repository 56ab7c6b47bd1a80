/- OutsOnly, OutCells: what program and reference compute; the laws CellsIn, OutCells answer true. -/
import Derived.Test.YtbbjajmimckabaaP9
import Derived.Test.YtbbjajmimckabaaT7
import Derived.Test.YtbbjajmimckabaaGO
set_option linter.unusedVariables false
set_option linter.unusedSimpArgs false
namespace Go.Proofs.Ytbbjajmimckabaa
open Go.Sx Go.RowKit

def nodeAt (g : Graph) (op : Int) : Option Node := if 0 ≤ op then g.nodes[op.toNat]? else none
def isOut (g : Graph) (x : Cell) : Bool := match nodeAt g x.op with | some n => n.kind == 8 | none => false
def outsOnly (g : Graph) (xs : List Cell) : List Cell := xs.filter (isOut g)

theorem nodeAt_some {g : Graph} {a : Int} {w : Node} (h : nodeAt g a = some w) : 0 ≤ a ∧ a < (↑(g.nodes.map Node.e).length : Int) ∧ (g.nodes.map Node.e)[a.toNat]? = some w.e ∧ inR a 0 (↑(g.nodes.map Node.e).length - 1) = true := by
  unfold nodeAt at h
  split at h
  · have := (List.getElem?_eq_some_iff.1 h).1
    refine ⟨‹_›, by simp; omega, by simp [h], ?_⟩
    simp only [inR, List.length_map, decide_eq_true_eq]; omega
  · cases h

theorem nodeAt_none {g : Graph} {a : Int} (h : nodeAt g a = none) : inR a 0 (↑(g.nodes.map Node.e).length - 1) = false := by
  unfold nodeAt at h
  simp only [inR, List.length_map, decide_eq_false_iff_not]
  split at h
  · rw [List.getElem?_eq_none_iff] at h; omega
  · omega

theorem nodeAt_mem {g : Graph} {a : Int} {w : Node} (h : nodeAt g a = some w) : w ∈ g.nodes := by
  unfold nodeAt at h
  split at h
  · exact List.mem_of_getElem? h
  · cases h

theorem Graph.nodes_le {g : Graph} (h : g.sz ≤ 1048576) : g.nodes.length ≤ 1048576 := by simp only [Graph.sz, szS] at h; omega
theorem Graph.outs_le {g : Graph} (h : g.sz ≤ 1048576) {w : Node} (hw : w ∈ g.nodes) : w.outs.length ≤ 1048576 := by
  have := le_sum (sz := Node.sz) hw
  simp only [Graph.sz, szS] at h
  have h5 : w.outs.length ≤ w.sz := by simp only [Node.sz]; omega
  omega

theorem up_nodes {g : Graph} (h : g.sz ≤ 1048576) : inInt .i64 ((↑(g.nodes.map Node.e).length : Int) - 1) := by
  have := Graph.nodes_le h
  exact ⟨by simp; omega, by simp; omega⟩

theorem impl_isNode_ret (g : Graph) (op : Int) (hg : g.sz ≤ 1048576) : Ret Try.prog 107 [.agg g.e, .one (I op)] [.one (B (nodeAt g op).isSome)] := by
  cases h : nodeAt g op with
  | none => exact impl_isNode_p0 _ _ _ _ _ ⟨up_nodes hg, impl_within_ret' _ _ _ _ (nodeAt_none h), trivial⟩
  | some w => exact impl_isNode_p0 _ _ _ _ _ ⟨up_nodes hg, impl_within_ret' _ _ _ _ (nodeAt_some h).2.2.2, trivial⟩
theorem impl_isNode_ret' (g : Graph) (op : Int) (r : Bool) (h : (nodeAt g op).isSome = r) (hg : g.sz ≤ 1048576) : Ret Try.prog 107 [.agg g.e, .one (I op)] [.one (B r)] := h ▸ impl_isNode_ret g op hg

def nodeOf (g : Graph) (op : Int) : Node × Bool := match nodeAt g op with | some n => (n, true) | none => (⟨0, 0, 0, []⟩, false)

theorem eI_flat (n : Int) : ∀ d ∈ eI n, ∃ x, d = .v x := by
  intro d hd
  simp only [eI, List.mem_cons, List.not_mem_nil, or_false] at hd
  subst hd; exact ⟨_, rfl⟩

theorem spec_NodeOf_ret (g : Graph) (op : Int) (hg : g.sz ≤ 1048576) : Ret Try.prog 106 [.agg g.e, .one (I op)] [.agg (nodeOf g op).1.e, .one (B (nodeOf g op).2)] := by
  unfold nodeOf
  cases h : nodeAt g op with
  | none => exact spec_NodeOf_p0 _ _ _ _ _ ⟨up_nodes hg, spec_l01In_ret' _ _ _ _ (nodeAt_none h), rfl, trivial⟩
  | some w =>
    obtain ⟨h1, h2, h3, h4⟩ := nodeAt_some h
    have ho := Graph.outs_le hg (nodeAt_mem h)
    exact spec_NodeOf_p1 _ _ _ _ _ _ _ _ _ ⟨up_nodes hg, spec_l01In_ret' _ _ _ _ h4, rfl, h1, h2, h3, by simp; omega, by simp; omega, flat_map _ eI_flat _, trivial⟩
theorem spec_NodeOf_ret' (g : Graph) (op : Int) (r : Node × Bool) (h : nodeOf g op = r) (hg : g.sz ≤ 1048576) : Ret Try.prog 106 [.agg g.e, .one (I op)] [.agg r.1.e, .one (B r.2)] := h ▸ spec_NodeOf_ret g op hg

theorem spec_OutsOnly_ret (g : Graph) (xs : List Cell) (hg : g.sz ≤ 1048576) (hl : xs.length ≤ 1048576) : Ret Try.prog 78 [.agg g.e, .one (.sl 4 (xs.map Cell.e))] [.one (.sl 4 ((outsOnly g xs).map Cell.e))] := by
  have l := loop_upto (P := Try.prog) (c := (loopOf Try.f78 0)) (exit_ne 0) xs.length (fun i : Nat => spec_OutsOnly_L0 (xs.map Cell.e) i (((xs.take i).filter (isOut g)).map Cell.e) (g.nodes.map Node.e) g.workers g.cap) (fun i hi => by
    obtain ⟨a, ha⟩ := get_of hi
    have hf := filt_len (isOut g) xs i
    have hs := filter_take (isOut g) ha
    cases h : nodeAt g a.op with
    | none =>
      have hp : isOut g a = false := by simp [isOut, h]
      rw [if_neg (by simp [hp]), List.append_nil] at hs
      rw [hs]
      exact spec_OutsOnly_L0_s2 _ _ _ _ _ _ _ _ _ _ _ _ _ _ _ ⟨lt1 hi, lt0, lt2 hi, at_map Cell.e ha, spec_NodeOf_ret' g a.op _ (by unfold nodeOf; rw [h]) hg, rfl, up1 hi hl, trivial⟩
    | some w =>
      have n := spec_NodeOf_ret' g a.op (w, true) (by unfold nodeOf; rw [h]) hg
      by_cases hk : (w.kind == 8) = true
      · have hp : isOut g a = true := by simp only [isOut, h]; exact hk
        rw [if_pos hp] at hs
        rw [hs, List.map_append]
        exact spec_OutsOnly_L0_s0 _ _ _ _ _ _ _ _ _ _ _ _ _ _ _ _ _ _ _ ⟨lt1 hi, lt0, lt2 hi, at_map Cell.e ha, n, rfl, hk, lt0, lt2 hi, at_map Cell.e ha, by simp; omega, by simp; omega, flat_one a.flat, up1 hi hl, trivial⟩
      · have hp : isOut g a = false := by simp only [isOut, h]; simpa using hk
        rw [if_neg (by simp [hp]), List.append_nil] at hs
        rw [hs]
        exact spec_OutsOnly_L0_s1 _ _ _ _ _ _ _ _ _ _ _ _ _ _ _ ⟨lt1 hi, lt0, lt2 hi, at_map Cell.e ha, n, rfl, by simpa using hk, up1 hi hl, trivial⟩) (spec_OutsOnly_L0_x3 _ _ _ _ _ _ ⟨ge1, trivial⟩)
  rw [List.take_length] at l
  exact spec_OutsOnly_p0 _ _ _ _ _ ⟨l, trivial⟩

theorem impl_OutsOnly_ret (g : Graph) (xs : List Cell) (hg : g.sz ≤ 1048576) (hl : xs.length ≤ 1048576) : Ret Try.prog 79 [.agg g.e, .one (.sl 4 (xs.map Cell.e))] [.one (.sl 4 ((outsOnly g xs).map Cell.e))] := by
  have l := loop_upto (P := Try.prog) (c := (loopOf Try.f79 0)) (exit_ne 0) xs.length (fun i : Nat => impl_OutsOnly_L0 (xs.map Cell.e) i (((xs.take i).filter (isOut g)).map Cell.e) (g.nodes.map Node.e) g.workers g.cap) (fun i hi => by
    obtain ⟨a, ha⟩ := get_of hi
    have hf := filt_len (isOut g) xs i
    have hs := filter_take (isOut g) ha
    cases h : nodeAt g a.op with
    | none =>
      have hp : isOut g a = false := by simp [isOut, h]
      rw [if_neg (by simp [hp]), List.append_nil] at hs
      rw [hs]
      exact impl_OutsOnly_L0_s2 _ _ _ _ _ _ _ _ _ _ _ ⟨lt1 hi, lt0, lt2 hi, at_map Cell.e ha, impl_isNode_ret' g a.op false (by rw [h]; rfl) hg, rfl, up1 hi hl, trivial⟩
    | some w =>
      have n := impl_isNode_ret' g a.op true (by rw [h]; rfl) hg
      obtain ⟨h1, h2, h3, h4⟩ := nodeAt_some h
      by_cases hk : (w.kind == 8) = true
      · have hp : isOut g a = true := by simp only [isOut, h]; exact hk
        rw [if_pos hp] at hs
        rw [hs, List.map_append]
        exact impl_OutsOnly_L0_s0 _ _ _ _ _ _ _ _ _ _ _ _ _ _ _ ⟨lt1 hi, lt0, lt2 hi, at_map Cell.e ha, n, rfl, h1, h2, h3, hk, by simp; omega, by simp; omega, flat_one a.flat, up1 hi hl, trivial⟩
      · have hp : isOut g a = false := by simp only [isOut, h]; simpa using hk
        rw [if_neg (by simp [hp]), List.append_nil] at hs
        rw [hs]
        exact impl_OutsOnly_L0_s1 _ _ _ _ _ _ _ _ _ _ _ _ _ _ _ ⟨lt1 hi, lt0, lt2 hi, at_map Cell.e ha, n, rfl, h1, h2, h3, by simpa using hk, up1 hi hl, trivial⟩) (impl_OutsOnly_L0_x3 _ _ _ _ _ _ ⟨ge1, trivial⟩)
  rw [List.take_length] at l
  exact impl_OutsOnly_p0 _ _ _ _ _ ⟨l, trivial⟩

theorem outsOnly_le {g : Graph} {xs : List Cell} (h : xs.length ≤ 1048576) : (outsOnly g xs).length ≤ 1048576 := Nat.le_trans (List.length_filter_le ..) h
end Go.Proofs.Ytbbjajmimckabaa
