/- Capped: what the program computes. -/
import Derived.Test.YtenekpkjlgddnaaP16
set_option linter.unusedVariables false
set_option linter.unusedSimpArgs false
namespace Go.Proofs.Ytenekpkjlgddnaa
open Go.Sx Go.RowKit

theorem nodeAt_map {g : Graph} {op : Int} {x : Node} (h : nodeAt g op = some x) : 0 ≤ op ∧ op < (↑(g.nodes.map Node.e).length : Int) ∧ (g.nodes.map Node.e)[op.toNat]? = some x.e := by
  unfold nodeAt at h
  split at h
  · have := lt_of h
    exact ⟨‹_›, by rw [List.length_map]; omega, at_mapN Node.e h⟩
  · cases h

theorem impl_Capped_ret (g : Graph) (r : Record) (hg : g.sz ≤ 8388608) : Ret Try.prog 20 [.agg g.e, .agg r.e] [.one (B (capped g r))] := by
  have k := impl_GraphOk_ret g hg
  have kr := impl_RecordOk_ret r
  have nt := impl_NextTurn_ret r.stamp
  cases h1 : graphOk g with
  | false =>
    rw [h1] at k
    rw [show capped g r = false by unfold capped; split <;> simp [cappedAt, h1]]
    exact impl_Capped_p0 _ _ _ _ _ _ _ _ _ ⟨k, rfl, trivial⟩
  | true =>
  rw [h1] at k
  cases h2 : recordOk r with
  | false =>
    rw [h2] at kr
    rw [show capped g r = false by unfold capped; split <;> simp [cappedAt, h2]]
    exact impl_Capped_p1 _ _ _ _ _ _ _ _ _ _ ⟨k, rfl, kr, rfl, trivial⟩
  | true =>
  rw [h2] at kr
  cases h3 : nodeAt g r.op with
  | none =>
    rw [show capped g r = false by unfold capped; rw [h3]]
    exact impl_Capped_p2 _ _ _ _ _ _ _ _ _ _ _ ⟨k, rfl, kr, rfl, impl_isNode_ret' g r.op false (by rw [h3]; rfl) hg, rfl, trivial⟩
  | some x =>
    obtain ⟨m1, m2, m3⟩ := nodeAt_map h3
    have ni := impl_isNode_ret' g r.op true (by rw [h3]; rfl) hg
    rw [show capped g r = cappedAt g r x by unfold capped; rw [h3]]
    cases h4 : (x.kind == 7) with
    | false =>
      rw [show cappedAt g r x = false by simp [cappedAt, h4]]
      exact impl_Capped_p5 _ _ _ _ _ _ _ _ _ _ _ _ _ _ _ _ _ _ ⟨k, rfl, kr, rfl, ni, rfl, m1, m2, m3, nt, h4, trivial⟩
    | true =>
    by_cases h5 : 0 < x.outs.length
    · rw [show cappedAt g r x = !(nextTurn r.stamp).2 by simp [cappedAt, h1, h2, h4, h5]]
      exact impl_Capped_p3 _ _ _ _ _ _ _ _ _ _ _ _ _ _ _ _ _ _ ⟨k, rfl, kr, rfl, ni, rfl, m1, m2, m3, nt, h4, dT (by rw [List.length_map]; omega), trivial⟩
    · rw [show cappedAt g r x = false by simp [cappedAt, h5]]
      exact impl_Capped_p4 _ _ _ _ _ _ _ _ _ _ _ _ _ _ _ _ _ _ ⟨k, rfl, kr, rfl, ni, rfl, m1, m2, m3, nt, h4, dF (by rw [List.length_map]; omega), trivial⟩

end Go.Proofs.Ytenekpkjlgddnaa
