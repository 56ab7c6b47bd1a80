/- StepOp, Capped: what program and reference compute. -/
import Derived.Test.YtialmplmfcahpaaGreatP17
set_option linter.unusedVariables false
set_option linter.unusedSimpArgs false
namespace Go.Proofs.YtialmplmfcahpaaGreat
open Go.Sx Go.RowKit Go.Proofs.Tryz
def qbw (g : Graph) (cs : List Cell) (r : Record) : List Cell × List Record × Bool := match qaS g r.op with | some x => qar g cs r x | none => (cs, [], false)
theorem qB1 (g : Graph) (cs : List Cell) (r : Record) (hg : g.sz ≤ 1048576) (hl : cs.length ≤ 1048576) : Ret prog 60 [.agg g.e, .one (.sl 4 (cs.map Cell.e)), .agg r.e] [.one (.sl 4 ((qbw g cs r).1.map Cell.e)), .one (.sl 5 ((qbw g cs r).2.1.map Record.e)), .one (B (qbw g cs r).2.2)] := by
  unfold qbw
  cases h : qaS g r.op with
  | some x => exact qBZ g cs r x hg hl h
  | none => exact qBj _ _ _ _ _ _ _ _ _ _ _ _ _ _ ⟨by simp <;> omega, by simp <;> omega, qaf _ Cell.flat _, qeP g r.op (⟨0, 0, 0, []⟩, false) (by unfold qcE; rw [h]) hg, rfl, trivial⟩
theorem qB2 (g : Graph) (cs : List Cell) (r : Record) (hg : g.sz ≤ 1048576) (hl : cs.length ≤ 1048576) : Ret prog 67 [.agg g.e, .one (.sl 4 (cs.map Cell.e)), .agg r.e] [.one (.sl 4 ((qbw g cs r).1.map Cell.e)), .one (.sl 5 ((qbw g cs r).2.1.map Record.e)), .one (B (qbw g cs r).2.2)] := by
  unfold qbw
  cases h : qaS g r.op with
  | some x => exact qB0 g cs r x hg hl h
  | none =>
    have c1 := qjD g hg
    have c2 := qjC r
    have c3 := qeO g r.op false (by rw [h]; rfl) hg
    have cp := qdd cs hl
    generalize qaE g = b1 at *
    generalize qaR r = b2 at *
    cases b1 with
    | false => exact qmK _ _ _ _ _ _ _ _ _ _ _ ⟨c1, rfl, cp, trivial⟩
    | true =>
      cases b2 with
      | false => exact qmL _ _ _ _ _ _ _ _ _ _ _ _ ⟨c1, rfl, c2, rfl, cp, trivial⟩
      | true => exact qBJ _ _ _ _ _ _ _ _ _ _ _ _ _ ⟨c1, rfl, c2, rfl, c3, rfl, cp, trivial⟩
def qB3 (g : Graph) (r : Record) (x : Node) : Bool := qaE g && qaR r && x.kind == 7 && decide (0 < x.outs.length) && !(qax r.stamp).2
def capped (g : Graph) (r : Record) : Bool := match qaS g r.op with | some x => qB3 g r x | none => false
theorem qmV {g : Graph} (h : qaE g = true) {op : Int} {x : Node} (hn : qaS g op = some x) : qab x = true := by
  simp only [qaE, Bool.and_eq_true, Bool.not_eq_true'] at h
  unfold qaS at hn
  split at hn
  · have := qih h.2 op.toNat x hn
    simp only [qbf, Bool.or_eq_false_iff, Bool.not_eq_false'] at this
    exact this.1.1
  · cases hn
theorem qmW {x : Node} (h : qab x = true) : x.outs.length ≤ 2 := by
  simp only [qab, Bool.and_eq_true, decide_eq_true_eq] at h
  exact h.1.1.1.2
theorem qB4 (kind : Int) (cs : List Cell) (x : Cell) : (qak kind cs x).1.length ≤ cs.length + 1 := by
  have h1 := qjr cs x
  have h2 := qjr (cs.filter fun a => !qas x a) x
  have h3 := List.length_filter_le (fun a => !qas x a) cs
  unfold qak
  split
  · split <;> simp <;> omega
  · split
    · unfold qaF
      split <;> simp <;> omega
    · simp
theorem qB5 {g : Graph} (hg : qaE g = true) (cs : List Cell) (r : Record) : (qbw g cs r).1.length ≤ cs.length + 1 ∧ (qbw g cs r).2.1.length ≤ 2 := by
  unfold qbw
  cases h : qaS g r.op with
  | none => exact ⟨by simp, by simp⟩
  | some x =>
    have hx := qmW (qmV hg h)
    have hr := qB4 x.kind cs ⟨r.op, r.stamp.epoch, r.key, r.val⟩
    have hs : ∀ s k v, (sends x s k v).length ≤ 2 := fun s k v => by simpa [sends] using hx
    simp only [qar]
    split
    · split
      · exact ⟨by simp, by simp⟩
      · split
        · exact ⟨hr, by simp⟩
        · split
          · refine ⟨hr, ?_⟩
            cases (qax r.stamp).2 with
            | true => exact hs _ _ _
            | false => simp
          · exact ⟨hr, hs _ _ _⟩
    · exact ⟨by simp, by simp⟩
end Go.Proofs.YtialmplmfcahpaaGreat
