/- Capped, the runs alone: what program and reference compute; the laws AloneSteps, AloneRun, AloneOuts answer true. -/
import Derived.Test.YtbbjajmimckabaaP17
import Derived.Test.YtbbjajmimckabaaT7
import Derived.Test.YtbbjajmimckabaaGO
set_option linter.unusedVariables false
set_option linter.unusedSimpArgs false
namespace Go.Proofs.Ytbbjajmimckabaa
open Go.Sx Go.RowKit

def stepOp (g : Graph) (cs : List Cell) (r : Record) : List Cell × List Record × Bool := match nodeAt g r.op with | some x => stepAt g cs r x | none => (cs, [], false)

theorem spec_StepOp_ret (g : Graph) (cs : List Cell) (r : Record) (hg : g.sz ≤ 1048576) (hl : cs.length ≤ 1048576) : Ret Try.prog 112 [.agg g.e, .one (.sl 4 (cs.map Cell.e)), .agg r.e] [.one (.sl 4 ((stepOp g cs r).1.map Cell.e)), .one (.sl 5 ((stepOp g cs r).2.1.map Record.e)), .one (B (stepOp g cs r).2.2)] := by
  unfold stepOp
  cases h : nodeAt g r.op with
  | some x => exact spec_StepOp_some g cs r x hg hl h
  | none => exact spec_StepOp_p0 _ _ _ _ _ _ _ _ _ _ _ _ _ _ ⟨by simp <;> omega, by simp <;> omega, flat_map _ Cell.flat _, spec_NodeOf_ret' g r.op (⟨0, 0, 0, []⟩, false) (by unfold nodeOf; rw [h]) hg, rfl, trivial⟩

theorem impl_StepOp_ret (g : Graph) (cs : List Cell) (r : Record) (hg : g.sz ≤ 1048576) (hl : cs.length ≤ 1048576) : Ret Try.prog 118 [.agg g.e, .one (.sl 4 (cs.map Cell.e)), .agg r.e] [.one (.sl 4 ((stepOp g cs r).1.map Cell.e)), .one (.sl 5 ((stepOp g cs r).2.1.map Record.e)), .one (B (stepOp g cs r).2.2)] := by
  unfold stepOp
  cases h : nodeAt g r.op with
  | some x => exact impl_StepOp_some g cs r x hg hl h
  | none =>
    have c1 := impl_GraphOk_ret g hg
    have c2 := impl_RecordOk_ret r
    have c3 := impl_isNode_ret' g r.op false (by rw [h]; rfl) hg
    have cp := impl_copyCells_ret cs hl
    generalize graphOk g = b1 at *
    generalize recordOk r = b2 at *
    cases b1 with
    | false => exact impl_StepOp_p0 _ _ _ _ _ _ _ _ _ _ _ ⟨c1, rfl, cp, trivial⟩
    | true =>
      cases b2 with
      | false => exact impl_StepOp_p1 _ _ _ _ _ _ _ _ _ _ _ _ ⟨c1, rfl, c2, rfl, cp, trivial⟩
      | true => exact impl_StepOp_p2 _ _ _ _ _ _ _ _ _ _ _ _ _ ⟨c1, rfl, c2, rfl, c3, rfl, cp, trivial⟩

def cappedAt (g : Graph) (r : Record) (x : Node) : Bool := graphOk g && recordOk r && x.kind == 7 && decide (0 < x.outs.length) && !(nextTurn r.stamp).2
def capped (g : Graph) (r : Record) : Bool := match nodeAt g r.op with | some x => cappedAt g r x | none => false

theorem spec_Capped_some (g : Graph) (r : Record) (x : Node) (hg : g.sz ≤ 1048576) (hn : nodeAt g r.op = some x) : Ret Try.prog 111 [.agg g.e, .agg r.e] [.one (B (cappedAt g r x))] := by
  have c1 := spec_NodeOf_ret' g r.op (x, true) (by unfold nodeOf; rw [hn]) hg
  have c2 := spec_NextTurn_ret r.stamp
  have c3 := spec_GraphOk_ret g hg
  rcases Bool.eq_false_or_eq_true (graphOk g) with h4 | h4
  · skip
    have c5 := spec_RecordOk_ret r
    rcases Bool.eq_false_or_eq_true (recordOk r) with h6 | h6
    · skip
      rcases Bool.eq_false_or_eq_true (x.kind == 7) with h7 | h7
      · skip
        rcases Bool.eq_false_or_eq_true (decide ((↑(x.outs.map eI).length : Int) > 0)) with h8 | h8
        · skip
          rw [show cappedAt g r x = (!((nextTurn r.stamp).2)) from by grind [cappedAt]]
          exact spec_Capped_p0 _ _ _ _ _ _ _ _ _ _ _ _ _ _ _ _ _ _ ⟨c1, c2, rfl, c3, h4, c5, h6, h7, h8, trivial⟩
        · skip
          rw [show cappedAt g r x = false from by grind [cappedAt]]
          exact spec_Capped_p1 _ _ _ _ _ _ _ _ _ _ _ _ _ _ _ _ _ _ ⟨c1, c2, rfl, c3, h4, c5, h6, h7, h8, trivial⟩
      · skip
        rw [show cappedAt g r x = false from by grind [cappedAt]]
        exact spec_Capped_p2 _ _ _ _ _ _ _ _ _ _ _ _ _ _ _ _ _ _ ⟨c1, c2, rfl, c3, h4, c5, h6, h7, trivial⟩
    · skip
      rw [show cappedAt g r x = false from by grind [cappedAt]]
      exact spec_Capped_p3 _ _ _ _ _ _ _ _ _ _ _ _ _ _ _ _ _ _ ⟨c1, c2, rfl, c3, h4, c5, h6, trivial⟩
  · skip
    rw [show cappedAt g r x = false from by grind [cappedAt]]
    exact spec_Capped_p4 _ _ _ _ _ _ _ _ _ _ _ _ _ _ _ _ _ ⟨c1, c2, rfl, c3, h4, trivial⟩

theorem spec_Capped_ret (g : Graph) (r : Record) (hg : g.sz ≤ 1048576) : Ret Try.prog 111 [.agg g.e, .agg r.e] [.one (B (capped g r))] := by
  unfold capped
  cases h : nodeAt g r.op with
  | some x => exact spec_Capped_some g r x hg h
  | none => exact spec_Capped_p5 _ _ _ _ _ _ _ _ _ _ _ _ _ _ _ _ ⟨spec_NodeOf_ret' g r.op (⟨0, 0, 0, []⟩, false) (by unfold nodeOf; rw [h]) hg, spec_NextTurn_ret r.stamp, rfl, trivial⟩

/-! ### How much a step adds -/
theorem node_ok {g : Graph} (h : graphOk g = true) {op : Int} {x : Node} (hn : nodeAt g op = some x) : nodeOk x = true := by
  simp only [graphOk, Bool.and_eq_true, Bool.not_eq_true'] at h
  unfold nodeAt at hn
  split at hn
  · have := anyI_false h.2 op.toNat x hn
    simp only [nodeBad, Bool.or_eq_false_iff, Bool.not_eq_false'] at this
    exact this.1.1
  · cases hn

theorem node_outs {x : Node} (h : nodeOk x = true) : x.outs.length ≤ 2 := by
  simp only [nodeOk, Bool.and_eq_true, decide_eq_true_eq] at h
  exact h.1.1.1.2

theorem recall_len (kind : Int) (cs : List Cell) (x : Cell) : (recall kind cs x).1.length ≤ cs.length + 1 := by
  have h1 := putCell_le cs x
  have h2 := putCell_le (cs.filter fun a => !sameSlot x a) x
  have h3 := List.length_filter_le (fun a => !sameSlot x a) cs
  unfold recall
  split
  · split <;> simp <;> omega
  · split
    · unfold better
      split <;> simp <;> omega
    · simp

theorem step_len {g : Graph} (hg : graphOk g = true) (cs : List Cell) (r : Record) : (stepOp g cs r).1.length ≤ cs.length + 1 ∧ (stepOp g cs r).2.1.length ≤ 2 := by
  unfold stepOp
  cases h : nodeAt g r.op with
  | none => exact ⟨by simp, by simp⟩
  | some x =>
    have hx := node_outs (node_ok hg h)
    have hr := recall_len x.kind cs ⟨r.op, r.stamp.epoch, r.key, r.val⟩
    have hs : ∀ s k v, (sends x s k v).length ≤ 2 := fun s k v => by simpa [sends] using hx
    simp only [stepAt]
    split
    · split
      · exact ⟨by simp, by simp⟩
      · split
        · exact ⟨hr, by simp⟩
        · split
          · refine ⟨hr, ?_⟩
            cases (nextTurn r.stamp).2 with
            | true => exact hs _ _ _
            | false => simp
          · exact ⟨hr, hs _ _ _⟩
    · exact ⟨by simp, by simp⟩

/-! ### The run -/
def alGo (g : Graph) : Nat → List Cell → List Record → (List Cell × List Record) × Nat
  | 0, cs, l => ((cs, l), 0)
  | _ + 1, cs, [] => ((cs, []), 0)
  | k + 1, cs, r :: l => ((alGo g k (stepOp g cs r).1 (l ++ (stepOp g cs r).2.1)).1, (alGo g k (stepOp g cs r).1 (l ++ (stepOp g cs r).2.1)).2 + 1)

theorem alGo_cells {g : Graph} (hg : graphOk g = true) : ∀ (k : Nat) (cs : List Cell) (l : List Record), (alGo g k cs l).1.1.length ≤ cs.length + k
  | 0, cs, l => by simp [alGo]
  | k + 1, cs, [] => by simp only [alGo]; omega
  | k + 1, cs, r :: l => by
    have h1 := alGo_cells hg k (stepOp g cs r).1 (l ++ (stepOp g cs r).2.1)
    have h2 := (step_len hg cs r).1
    simp only [alGo]
    omega

theorem tail_list (r : Record) (l more : List Record) : List.take (((r :: l).map Record.e).length - 1) (List.drop 1 ((r :: l).map Record.e)) ++ more.map Record.e = (l ++ more).map Record.e := by
  rw [List.map_cons, List.drop_succ_cons, List.drop_zero, List.take_of_length_le (by simp), List.map_append]

theorem impl_run (g : Graph) (hg : g.sz ≤ 1048576) (hok : graphOk g = true) (gt : Nat) (hc : canCall Try.prog gt = true) (ht : ∀ r : Record, Ret Try.prog gt ([.agg r.e] ++ ([] : List D).map .one) []) : ∀ (k n : Nat) (cs : List Cell) (l : List Record), n + k = 20000 → cs.length ≤ n → l.length ≤ 1048576 + 2 * n →
    LoopOk Try.prog (loopOf Try.f84 1) (impl_alone_L1 gt [] (g.nodes.map Node.e) g.workers g.cap (l.map Record.e) n (cs.map Cell.e)) (.exit 2) (impl_alone_X1 ((alGo g k cs l).1.1.map Cell.e) ((n + (alGo g k cs l).2 : Nat) : Int) ((alGo g k cs l).1.2.map Record.e))
  | 0, n, cs, l, hn, hcs, hl => by
    cases l with
    | nil => exact .last (exit_ne 2) (impl_alone_L1_x2 _ _ _ _ _ _ _ _ ⟨rfl, trivial⟩)
    | cons r l => exact .last (exit_ne 2) (impl_alone_L1_x1 _ _ _ _ _ _ _ _ ⟨dT (by simp <;> omega), dF (by omega), trivial⟩)
  | k + 1, n, cs, [], hn, hcs, hl => .last (exit_ne 2) (impl_alone_L1_x2 _ _ _ _ _ _ _ _ ⟨rfl, trivial⟩)
  | k + 1, n, cs, r :: l, hn, hcs, hl => by
    obtain ⟨h1, h2⟩ := step_len hok cs r
    have s := impl_StepOp_ret g cs r hg (by omega)
    rw [List.length_cons] at hl
    have ih := impl_run g hg hok gt hc ht k (n + 1) (stepOp g cs r).1 (l ++ (stepOp g cs r).2.1) (by omega) (by omega) (by rw [List.length_append]; omega)
    simp only [alGo]
    rw [show n + ((alGo g k (stepOp g cs r).1 (l ++ (stepOp g cs r).2.1)).2 + 1) = n + 1 + (alGo g k (stepOp g cs r).1 (l ++ (stepOp g cs r).2.1)).2 by omega]
    refine .more (tr_to (fun q => impl_alone_L1 gt [] (g.nodes.map Node.e) g.workers g.cap q ((n + 1 : Nat) : Int) ((stepOp g cs r).1.map Cell.e)) (impl_alone_L1_s0 _ _ _ _ _ _ _ _ _ _ _ _ _ _ _ _ _ _ _ _ _ ⟨dT (by simp <;> omega), dT (by omega), by omega, by simp <;> omega, rfl, hc, ht r, by omega, by simp <;> omega, rfl, s, by simp, by simp <;> omega, by simp, by simp <;> omega, by simp <;> omega, flat_map _ Record.flat _, ⟨by omega, by omega⟩, trivial⟩) (tail_list r l _)) ih

theorem spec_run (g : Graph) (hg : g.sz ≤ 1048576) (hok : graphOk g = true) : ∀ (k n : Nat) (cs : List Cell) (l : List Record) (b : Bool), n + k = 20000 → cs.length ≤ n → l.length ≤ 1048576 + 2 * n → ∃ b' : Bool,
    ((alGo g k cs l).1.2 = [] ∧ LoopOk Try.prog (loopOf Try.f81 1) (spec_l23Run_L1 (g.nodes.map Node.e) g.workers g.cap (l.map Record.e) n (cs.map Cell.e) b) (.exit 2) (spec_l23Run_X1v7 ((alGo g k cs l).1.1.map Cell.e) ((n + (alGo g k cs l).2 : Nat) : Int) b')) ∨
    ((alGo g k cs l).1.2 ≠ [] ∧ LoopOk Try.prog (loopOf Try.f81 1) (spec_l23Run_L1 (g.nodes.map Node.e) g.workers g.cap (l.map Record.e) n (cs.map Cell.e) b) .ret (spec_l23Run_X1 ((alGo g k cs l).1.1.map Cell.e) ((n + (alGo g k cs l).2 : Nat) : Int) false b'))
  | 0, n, cs, l, b, hn, hcs, hl => by
    cases l with
    | nil => exact ⟨b, .inl ⟨rfl, .last (exit_ne 2) (spec_l23Run_L1_x3 _ _ _ _ _ _ _ ⟨rfl, trivial⟩)⟩⟩
    | cons r l => exact ⟨b, .inr ⟨by simp [alGo], .last ret_ne (spec_l23Run_L1_x0 _ _ _ _ _ _ _ ⟨dT (by simp <;> omega), dT (by omega), trivial⟩)⟩⟩
  | k + 1, n, cs, [], b, hn, hcs, hl => ⟨b, .inl ⟨rfl, .last (exit_ne 2) (spec_l23Run_L1_x3 _ _ _ _ _ _ _ ⟨rfl, trivial⟩)⟩⟩
  | k + 1, n, cs, r :: l, b, hn, hcs, hl => by
    obtain ⟨h1, h2⟩ := step_len hok cs r
    have s := spec_StepOp_ret g cs r hg (by omega)
    rw [List.length_cons] at hl
    have first : ∃ b1, Tr Try.prog (loopOf Try.f81 1) (spec_l23Run_L1 (g.nodes.map Node.e) g.workers g.cap ((r :: l).map Record.e) n (cs.map Cell.e) b) .normal (spec_l23Run_L1 (g.nodes.map Node.e) g.workers g.cap ((l ++ (stepOp g cs r).2.1).map Record.e) ((n + 1 : Nat) : Int) ((stepOp g cs r).1.map Cell.e) b1) := by
      cases b with
      | true => exact ⟨true, tr_to (fun q => spec_l23Run_L1 (g.nodes.map Node.e) g.workers g.cap q ((n + 1 : Nat) : Int) ((stepOp g cs r).1.map Cell.e) true) (spec_l23Run_L1_s1 _ _ _ _ _ _ _ _ _ _ _ _ _ _ _ ⟨dT (by simp <;> omega), dF (by omega), rfl, by omega, by simp <;> omega, rfl, s, by simp, by simp <;> omega, by simp, by simp <;> omega, by simp <;> omega, flat_map _ Record.flat _, ⟨by omega, by omega⟩, trivial⟩) (tail_list r l _)⟩
      | false => exact ⟨capped g r, tr_to (fun q => spec_l23Run_L1 (g.nodes.map Node.e) g.workers g.cap q ((n + 1 : Nat) : Int) ((stepOp g cs r).1.map Cell.e) (capped g r)) (spec_l23Run_L1_s2 _ _ _ _ _ _ _ _ _ _ _ _ _ _ _ _ _ _ _ _ _ ⟨dT (by simp <;> omega), dF (by omega), rfl, by omega, by simp <;> omega, rfl, spec_Capped_ret g r hg, by omega, by simp <;> omega, rfl, s, by simp, by simp <;> omega, by simp, by simp <;> omega, by simp <;> omega, flat_map _ Record.flat _, ⟨by omega, by omega⟩, trivial⟩) (tail_list r l _)⟩
    obtain ⟨b1, first⟩ := first
    obtain ⟨b', ih⟩ := spec_run g hg hok k (n + 1) (stepOp g cs r).1 (l ++ (stepOp g cs r).2.1) b1 (by omega) (by omega) (by rw [List.length_append]; omega)
    simp only [alGo]
    rw [show n + ((alGo g k (stepOp g cs r).1 (l ++ (stepOp g cs r).2.1)).2 + 1) = n + 1 + (alGo g k (stepOp g cs r).1 (l ++ (stepOp g cs r).2.1)).2 by omega]
    rcases ih with ⟨h3, h4⟩ | ⟨h3, h4⟩
    · exact ⟨b', .inl ⟨h3, .more first h4⟩⟩
    · exact ⟨b', .inr ⟨h3, .more first h4⟩⟩

/-! ### What it starts with -/
def fresh (r : Record) : Record := ⟨0, ⟨r.stamp.epoch, 0⟩, r.key, r.val⟩
def ofEpoch (e : Int) (xs : List Record) : List Record := xs.filter fun r => r.stamp.epoch == e
def starts (xs : List Record) (e : Int) : List Record := ((ofEpoch e xs).filter recordOk).map fresh

theorem starts_le (xs : List Record) (e : Int) : (starts xs e).length ≤ xs.length := by
  simp only [starts, List.length_map, ofEpoch]
  exact Nat.le_trans (List.length_filter_le ..) (List.length_filter_le ..)

theorem impl_OfEpoch_ret (xs : List Record) (e : Int) (hl : xs.length ≤ 1048576) : Ret Try.prog 116 [.one (.sl 5 (xs.map Record.e)), .one (I e)] [.one (.sl 5 ((ofEpoch e xs).map Record.e))] := by
  let p := fun r : Record => r.stamp.epoch == e
  have l := loop_upto (P := Try.prog) (c := (loopOf Try.f116 0)) (exit_ne 0) xs.length (fun i : Nat => impl_OfEpoch_L0 (xs.map Record.e) e i (((xs.take i).filter p).map Record.e)) (fun i hi => by
    obtain ⟨a, ha⟩ := get_of hi
    have hf := filt_len p xs i
    have hs := filter_take p ha
    by_cases hp : p a = true
    · rw [if_pos hp] at hs
      rw [hs, List.map_append]
      exact impl_OfEpoch_L0_s0 _ _ _ _ _ _ _ _ _ ⟨lt1 hi, lt0, lt2 hi, at_map Record.e ha, hp, by simp <;> omega, by simp <;> omega, flat_one a.flat, up1 hi hl, trivial⟩
    · rw [if_neg hp, List.append_nil] at hs
      rw [hs]
      exact impl_OfEpoch_L0_s1 _ _ _ _ _ _ _ _ _ ⟨lt1 hi, lt0, lt2 hi, at_map Record.e ha, Bool.eq_false_iff.2 hp, up1 hi hl, trivial⟩) (impl_OfEpoch_L0_x2 _ _ _ _ ⟨ge1, trivial⟩)
  rw [List.take_length] at l
  exact impl_OfEpoch_p0 _ _ _ ⟨l, trivial⟩

theorem impl_RecordOk_ret' (r : Record) (b : Bool) (h : recordOk r = b) : Ret Try.prog 117 [.agg r.e] [.one (B b)] := h ▸ impl_RecordOk_ret r
theorem spec_RecordOk_ret' (r : Record) (b : Bool) (h : recordOk r = b) : Ret Try.prog 110 [.agg r.e] [.one (B b)] := h ▸ spec_RecordOk_ret r

theorem fm_take (p : Record → Bool) {xs : List Record} {i : Nat} {a : Record} (h : xs[i]? = some a) : (((xs.take (i + 1)).filter p).map fresh).map Record.e = (((xs.take i).filter p).map fresh).map Record.e ++ (if p a then [[I 0, I a.stamp.epoch, I 0, I a.key, I a.val]] else []) := by
  rw [filter_take p h]
  split
  · simp only [List.map_append]; rfl
  · simp

theorem impl_starts (g : Graph) (gt : Nat) (xs : List Record) (hl : xs.length ≤ 1048576) : LoopOk Try.prog (loopOf Try.f84 0) (impl_alone_L0 gt [] (xs.map Record.e) 0 [] (g.nodes.map Node.e) g.workers g.cap) (.exit 0) (impl_alone_X0 gt [] (((xs.filter recordOk).map fresh).map Record.e) (g.nodes.map Node.e) g.workers g.cap) := by
  have l := loop_upto (P := Try.prog) (c := (loopOf Try.f84 0)) (exit_ne 0) xs.length (fun i : Nat => impl_alone_L0 gt [] (xs.map Record.e) i ((((xs.take i).filter recordOk).map fresh).map Record.e) (g.nodes.map Node.e) g.workers g.cap) (fun i hi => by
    obtain ⟨a, ha⟩ := get_of hi
    have hf := filt_len recordOk xs i
    rw [fm_take recordOk ha]
    cases hp : recordOk a with
    | true =>
      rw [if_pos rfl]
      exact impl_alone_L0_s0 _ _ _ _ _ _ _ _ _ _ _ _ _ _ ⟨lt1 hi, lt0, lt2 hi, at_map Record.e ha, impl_RecordOk_ret' a true hp, rfl, by simp <;> omega, by simp <;> omega, flat_one (fresh a).flat, up1 hi hl, trivial⟩
    | false =>
      rw [if_neg (by simp), List.append_nil]
      exact impl_alone_L0_s1 _ _ _ _ _ _ _ _ _ _ _ _ _ _ ⟨lt1 hi, lt0, lt2 hi, at_map Record.e ha, impl_RecordOk_ret' a false hp, rfl, up1 hi hl, trivial⟩) (impl_alone_L0_x2 _ _ _ _ _ _ _ _ ⟨ge1, trivial⟩)
  rw [List.take_length] at l
  exact l

theorem spec_starts (g : Graph) (e : Int) (xs : List Record) (hl : xs.length ≤ 1048576) : LoopOk Try.prog (loopOf Try.f81 0) (spec_l23Run_L0 (xs.map Record.e) e 0 [] (g.nodes.map Node.e) g.workers g.cap) (.exit 0) (spec_l23Run_X0 ((starts xs e).map Record.e) (g.nodes.map Node.e) g.workers g.cap) := by
  let p := fun r : Record => r.stamp.epoch == e && recordOk r
  have l := loop_upto (P := Try.prog) (c := (loopOf Try.f81 0)) (exit_ne 0) xs.length (fun i : Nat => spec_l23Run_L0 (xs.map Record.e) e i ((((xs.take i).filter p).map fresh).map Record.e) (g.nodes.map Node.e) g.workers g.cap) (fun i hi => by
    obtain ⟨a, ha⟩ := get_of hi
    have hf := filt_len p xs i
    rw [fm_take p ha]
    cases h1 : (a.stamp.epoch == e) with
    | false =>
      rw [if_neg (by simp [p, h1]), List.append_nil]
      exact spec_l23Run_L0_s2 _ _ _ _ _ _ _ _ _ _ _ _ ⟨lt1 hi, lt0, lt2 hi, at_map Record.e ha, h1, up1 hi hl, trivial⟩
    | true =>
      cases h2 : recordOk a with
      | true =>
        rw [if_pos (by simp only [p, h1, h2]; rfl)]
        exact spec_l23Run_L0_s0 _ _ _ _ _ _ _ _ _ _ _ _ _ _ _ _ _ _ _ _ _ _ _ ⟨lt1 hi, lt0, lt2 hi, at_map Record.e ha, h1, lt0, lt2 hi, at_map Record.e ha, spec_RecordOk_ret' a true h2, rfl, lt0, lt2 hi, at_map Record.e ha, by simp <;> omega, by simp <;> omega, flat_one (fresh a).flat, up1 hi hl, trivial⟩
      | false =>
        rw [if_neg (by simp [p, h2]), List.append_nil]
        exact spec_l23Run_L0_s1 _ _ _ _ _ _ _ _ _ _ _ _ _ _ _ _ _ _ ⟨lt1 hi, lt0, lt2 hi, at_map Record.e ha, h1, lt0, lt2 hi, at_map Record.e ha, spec_RecordOk_ret' a false h2, rfl, up1 hi hl, trivial⟩) (spec_l23Run_L0_x3 _ _ _ _ _ _ _ ⟨ge1, trivial⟩)
  rw [List.take_length] at l
  have e1 : (xs.filter p).map fresh = starts xs e := by simp only [starts, ofEpoch, List.filter_filter, p]; congr 2; funext r; rw [Bool.and_comm]
  rw [e1] at l
  exact l

def aloneRun (g : Graph) (xs : List Record) (e : Int) : List Cell × Int × Bool :=
  if graphOk g then ((alGo g 20000 [] (starts xs e)).1.1, ((alGo g 20000 [] (starts xs e)).2 : Int), decide ((alGo g 20000 [] (starts xs e)).1.2 = [])) else ([], 0, false)

theorem aloneRun_le (g : Graph) (xs : List Record) (e : Int) : (aloneRun g xs e).1.length ≤ 1048576 := by
  unfold aloneRun
  split
  · have := alGo_cells ‹graphOk g = true› 20000 [] (starts xs e)
    simp only [List.length_nil] at this
    show (alGo g 20000 [] (starts xs e)).1.1.length ≤ _
    omega
  · simp

theorem spec_l23Run_ret (g : Graph) (xs : List Record) (e : Int) (hg : g.sz ≤ 1048576) (hl : xs.length ≤ 1048576) : ∃ b, Ret Try.prog 81 [.agg g.e, .one (.sl 5 (xs.map Record.e)), .one (I e)] [.one (.sl 4 ((aloneRun g xs e).1.map Cell.e)), .one (I (aloneRun g xs e).2.1), .one (B (aloneRun g xs e).2.2), .one (B b)] := by
  have c := spec_GraphOk_ret g hg
  unfold aloneRun
  cases h : graphOk g with
  | false =>
    rw [h] at c
    exact ⟨false, spec_l23Run_p0 _ _ _ _ _ _ ⟨c, rfl, trivial⟩⟩
  | true =>
    rw [h] at c
    have l0 := spec_starts g e xs hl
    have hs := starts_le xs e
    obtain ⟨b, l1⟩ := spec_run g hg h 20000 0 [] (starts xs e) false rfl (by simp) (by omega)
    rw [if_pos rfl]
    refine ⟨b, ?_⟩
    rcases l1 with ⟨h1, l1⟩ | ⟨h1, l1⟩
    · rw [dT h1]
      rw [Nat.zero_add] at l1
      exact spec_l23Run_p2 _ _ _ _ _ _ _ _ _ _ _ _ _ ⟨c, rfl, l0, l1, trivial⟩
    · rw [dF h1]
      rw [Nat.zero_add] at l1
      exact spec_l23Run_p1 _ _ _ _ _ _ _ _ _ _ _ _ _ _ ⟨c, rfl, l0, l1, trivial⟩

theorem impl_alone_ret (g : Graph) (xs : List Record) (e : Int) (gt : Nat) (hg : g.sz ≤ 1048576) (hl : xs.length ≤ 1048576) (hc : canCall Try.prog gt = true) (ht : ∀ r : Record, Ret Try.prog gt ([.agg r.e] ++ ([] : List D).map .one) []) : Ret Try.prog 84 [.agg g.e, .one (.sl 5 (xs.map Record.e)), .one (I e), .one (.cl gt [])] [.one (.sl 4 ((aloneRun g xs e).1.map Cell.e)), .one (I (aloneRun g xs e).2.1), .one (B (aloneRun g xs e).2.2)] := by
  have c := impl_GraphOk_ret g hg
  unfold aloneRun
  cases h : graphOk g with
  | false =>
    rw [h] at c
    exact impl_alone_p0 _ _ _ _ _ _ _ _ ⟨c, rfl, trivial⟩
  | true =>
    rw [h] at c
    have ho : (ofEpoch e xs).length ≤ 1048576 := Nat.le_trans (List.length_filter_le ..) hl
    have l0 := impl_starts g gt (ofEpoch e xs) ho
    have hs := starts_le xs e
    have l1 := impl_run g hg h gt hc ht 20000 0 [] (starts xs e) rfl (by simp) (by omega)
    rw [Nat.zero_add] at l1
    rw [if_pos rfl]
    have key : ((↑((alGo g 20000 [] (starts xs e)).1.2.map Record.e).length : Int) == 0) = decide ((alGo g 20000 [] (starts xs e)).1.2 = []) := by
      cases (alGo g 20000 [] (starts xs e)).1.2 with
      | nil => rfl
      | cons a l =>
        rw [show decide (a :: l = []) = false from dF (by simp)]
        simp only [List.length_map, List.length_cons, beq_eq_false_iff_ne, ne_eq]
        omega
    show Ret _ _ _ [_, _, .one (B (decide ((alGo g 20000 [] (starts xs e)).1.2 = [])))]
    rw [← key]
    exact impl_alone_p1 _ _ _ _ _ _ _ _ _ _ _ _ _ _ _ _ ⟨c, rfl, impl_OfEpoch_ret xs e hl, l0, l1, trivial⟩

theorem impl_AloneRun_ret (g : Graph) (xs : List Record) (e : Int) (hg : g.sz ≤ 1048576) (hl : xs.length ≤ 1048576) : Ret Try.prog 45 [.agg g.e, .one (.sl 5 (xs.map Record.e)), .one (I e)] [.one (.sl 4 ((aloneRun g xs e).1.map Cell.e)), .one (I (aloneRun g xs e).2.1), .one (B (aloneRun g xs e).2.2)] :=
  impl_AloneRun_p0 _ _ _ _ _ _ _ _ ⟨impl_alone_ret g xs e 85 hg hl (by kernel_rfl) (fun _ => impl_AloneRun_1_p0 _ _ _ _ _ trivial), trivial⟩

theorem spec_AloneRun_ret (g : Graph) (xs : List Record) (e : Int) (hg : g.sz ≤ 1048576) (hl : xs.length ≤ 1048576) : Ret Try.prog 44 [.agg g.e, .one (.sl 5 (xs.map Record.e)), .one (I e)] [.one (.sl 4 ((aloneRun g xs e).1.map Cell.e)), .one (I (aloneRun g xs e).2.1), .one (B (aloneRun g xs e).2.2)] := by
  obtain ⟨b, h⟩ := spec_l23Run_ret g xs e hg hl
  exact spec_AloneRun_p0 _ _ _ _ _ _ _ _ _ ⟨h, trivial⟩

theorem spec_AloneSteps_ret (g : Graph) (xs : List Record) (e : Int) (hg : g.sz ≤ 1048576) (hl : xs.length ≤ 1048576) : Ret Try.prog 40 [.agg g.e, .one (.sl 5 (xs.map Record.e)), .one (I e)] [.one (I (aloneRun g xs e).2.1)] := by
  obtain ⟨b, h⟩ := spec_l23Run_ret g xs e hg hl
  exact spec_AloneSteps_p0 _ _ _ _ _ _ _ _ _ ⟨h, trivial⟩
theorem impl_AloneSteps_ret (g : Graph) (xs : List Record) (e : Int) (hg : g.sz ≤ 1048576) (hl : xs.length ≤ 1048576) : Ret Try.prog 42 [.agg g.e, .one (.sl 5 (xs.map Record.e)), .one (I e)] [.one (I (aloneRun g xs e).2.1)] :=
  impl_AloneSteps_p0 _ _ _ _ _ _ _ _ ⟨impl_AloneRun_ret g xs e hg hl, trivial⟩

def aloneOuts (g : Graph) (xs : List Record) (e : Int) : List Cell := outsOnly g (aloneRun g xs e).1
theorem aloneOuts_le (g : Graph) (xs : List Record) (e : Int) : (aloneOuts g xs e).length ≤ 1048576 := outsOnly_le (aloneRun_le g xs e)
theorem spec_AloneOuts_ret (g : Graph) (xs : List Record) (e : Int) (hg : g.sz ≤ 1048576) (hl : xs.length ≤ 1048576) : Ret Try.prog 47 [.agg g.e, .one (.sl 5 (xs.map Record.e)), .one (I e)] [.one (.sl 4 ((aloneOuts g xs e).map Cell.e))] := by
  obtain ⟨b, h⟩ := spec_l23Run_ret g xs e hg hl
  exact spec_AloneOuts_p0 _ _ _ _ _ _ _ _ _ _ ⟨h, spec_OutsOnly_ret g _ hg (aloneRun_le g xs e), trivial⟩
theorem impl_AloneOuts_ret (g : Graph) (xs : List Record) (e : Int) (hg : g.sz ≤ 1048576) (hl : xs.length ≤ 1048576) : Ret Try.prog 48 [.agg g.e, .one (.sl 5 (xs.map Record.e)), .one (I e)] [.one (.sl 4 ((aloneOuts g xs e).map Cell.e))] :=
  impl_AloneOuts_p0 _ _ _ _ _ _ _ _ _ ⟨impl_AloneRun_ret g xs e hg hl, impl_OutsOnly_ret g _ hg (aloneRun_le g xs e), trivial⟩
end Go.Proofs.Ytbbjajmimckabaa

namespace Go.Proofs.Ytbbjajmimckabaa
open Go.Sx Go.RowKit

/-- Marks over a graph and a list of records. -/
theorem graph_marks (g : Graph) (xs : List Record) (hg : g.sz ≤ 1048576) (hl : xs.length ≤ 1048576) : 1 ≤ nextL Node.next 1 g.nodes ∧ nextL Node.next 1 g.nodes ≤ 1000000000000 ∧ nextL Node.next 1 g.nodes ≤ nextL Record.next (nextL Node.next 1 g.nodes) xs ∧ nextL Record.next (nextL Node.next 1 g.nodes) xs ≤ 1000000000000 := by
  have f0 := nextL_le Node.cb Node.next_le g.nodes 1
  have g0 := sum_cb Node.cb Node.sz Node.cb_le g.nodes
  have f1 := nextL_le Record.cb Record.next_le xs (nextL Node.next 1 g.nodes)
  rw [Record.cb_sum] at f1
  simp only [Graph.sz, szS] at hg
  omega

theorem markGraph_ret (g : Graph) (hg : g.sz ≤ 1048576) (hM : nextL Node.next 1 g.nodes ≤ 1000000000000) :
    RetG Try.prog 46 [.agg [.gv 4 (g.nodes.map Node.e) (some ((markL Node.mark Node.next 1 g.nodes).map Node.e)), .ro (I g.workers), .ro (I g.cap)], .one (.ro (I 1))] [.one (I (nextL Node.next 1 g.nodes))] := by
  have hz := hg
  simp only [Graph.sz, szS] at hz
  exact laws_markGraph_p0 _ _ _ _ _ _ ⟨laws_markNodeS_ret g.nodes 1 (by omega) hM (by omega) (fun x hx => by have := le_sum (sz := Node.sz) hx; omega), trivial⟩

theorem law_AloneSteps (g : Graph) (xs : List Record) (e : Int) (hw : g.wf) (hx : (xs.length : Int) ≤ 9223372036854775807) (_ : ∀ x ∈ xs, x.wf) : Ret Try.prog 8 [.agg g.e, .one (.sl 5 (xs.map Record.e)), .one (I e)] [.one (B true)] := by
  have s := laws_szGraph_ret g 1048576 (by omega) (by omega) hw
  by_cases h : g.sz ≤ 1048576
  · rw [leftOf_ok (by omega)] at s
    have s2 := laws_szRecordS_ret xs (1048576 - g.sz) (by omega) (by omega) hx
    by_cases h2 : xs.length + g.sz ≤ 1048576
    · rw [leftOf_ok (by omega)] at s2
      have hl : xs.length ≤ 1048576 := by omega
      have t := laws_toGraph_ret g h
      have tr := laws_toRecordS_ret xs hl
      exact laws_FnExactAloneSteps_p5 _ _ _ _ _ _ _ _ _ _ _ _ _ _ _ _ _ _ _ _ _ _ _ ⟨s, dF (by omega), s2, dF (by omega), t, tr, spec_AloneSteps_ret g xs e h hl, t, tr, impl_AloneSteps_ret g xs e h hl, by simp, t, laws_eqGraph_ret' g g true (by simp) h, rfl, tr, laws_eqRecordS_ret' xs _ true (decide_eq_true rfl) hl, rfl, trivial⟩
    · rw [leftOf_neg (by omega)] at s2
      exact laws_FnExactAloneSteps_p1 _ _ _ _ _ _ _ ⟨s, dF (by omega), s2, rfl, trivial⟩
  · rw [leftOf_neg (by omega)] at s
    exact laws_FnExactAloneSteps_p0 _ _ _ _ _ _ ⟨s, rfl, trivial⟩

theorem law_AloneRun (g : Graph) (xs : List Record) (e : Int) (hw : g.wf) (hx : (xs.length : Int) ≤ 9223372036854775807) (_ : ∀ x ∈ xs, x.wf) : Ret Try.prog 9 [.agg g.e, .one (.sl 5 (xs.map Record.e)), .one (I e)] [.one (B true)] := by
  have s := laws_szGraph_ret g 1048576 (by omega) (by omega) hw
  by_cases h : g.sz ≤ 1048576
  · rw [leftOf_ok (by omega)] at s
    have s2 := laws_szRecordS_ret xs (1048576 - g.sz) (by omega) (by omega) hx
    by_cases h2 : xs.length + g.sz ≤ 1048576
    · rw [leftOf_ok (by omega)] at s2
      have hl : xs.length ≤ 1048576 := by omega
      have t := laws_toGraph_ret g h
      have tr := laws_toRecordS_ret xs hl
      have i := impl_AloneRun_ret g xs e h hl
      have sp := spec_AloneRun_ret g xs e h hl
      have hr := aloneRun_le g xs e
      generalize aloneRun g xs e = R at *
      obtain ⟨cs, n, b⟩ := R
      have tn := top_Cell cs hr
      have eq := laws_eqCellS_ret' cs _ true (decide_eq_true rfl) hr
      have hd := laws_heldCellS_ret cs 1 (by omega) tn.2 hr
      have ng : decide (nextL Cell.next 1 cs < 0) = false := dF (by omega)
      have ne : (nextL Cell.next 1 cs != nextL Cell.next 1 cs) = false := by simp
      obtain ⟨m1, m2, m3, m4⟩ := graph_marks g xs h hl
      exact laws_FnExactAloneRun_p16 _ _ _ _ _ _ _ _ _ _ _ _ _ _ _ _ _ _ _ _ _ _ _ _ _ _ _ _ _ _ _ _ _ _ _ _ _ _ _ _ _ _ _ _ _ ⟨s, dF (by omega), s2, dF (by omega), t, tr, sp, t, tr, i, eq, rfl, by simp, by simp, t, laws_eqGraph_ret' g g true (by simp) h, rfl, tr, laws_eqRecordS_ret' xs _ true (decide_eq_true rfl) hl, rfl, markGraph_ret g h m2, laws_markRecordS_ret xs _ (by omega) m4 hl, dF (by omega), eq, rfl, by simp, by simp, laws_markCellS_ret cs 1 (by omega) tn.2 hr, hd, ng, ne, t, tr, i, eq, rfl, by simp, by simp, hd, ng, ne, trivial⟩
    · rw [leftOf_neg (by omega)] at s2
      exact laws_FnExactAloneRun_p1 _ _ _ _ _ _ _ ⟨s, dF (by omega), s2, rfl, trivial⟩
  · rw [leftOf_neg (by omega)] at s
    exact laws_FnExactAloneRun_p0 _ _ _ _ _ _ ⟨s, rfl, trivial⟩

theorem law_AloneOuts (g : Graph) (xs : List Record) (e : Int) (hw : g.wf) (hx : (xs.length : Int) ≤ 9223372036854775807) (_ : ∀ x ∈ xs, x.wf) : Ret Try.prog 10 [.agg g.e, .one (.sl 5 (xs.map Record.e)), .one (I e)] [.one (B true)] := by
  have s := laws_szGraph_ret g 1048576 (by omega) (by omega) hw
  by_cases h : g.sz ≤ 1048576
  · rw [leftOf_ok (by omega)] at s
    have s2 := laws_szRecordS_ret xs (1048576 - g.sz) (by omega) (by omega) hx
    by_cases h2 : xs.length + g.sz ≤ 1048576
    · rw [leftOf_ok (by omega)] at s2
      have hl : xs.length ≤ 1048576 := by omega
      have t := laws_toGraph_ret g h
      have tr := laws_toRecordS_ret xs hl
      have i := impl_AloneOuts_ret g xs e h hl
      have sp := spec_AloneOuts_ret g xs e h hl
      have hr := aloneOuts_le g xs e
      generalize aloneOuts g xs e = cs at *
      have tn := top_Cell cs hr
      have eq := laws_eqCellS_ret' cs _ true (decide_eq_true rfl) hr
      have hd := laws_heldCellS_ret cs 1 (by omega) tn.2 hr
      have ng : decide (nextL Cell.next 1 cs < 0) = false := dF (by omega)
      have ne : (nextL Cell.next 1 cs != nextL Cell.next 1 cs) = false := by simp
      obtain ⟨m1, m2, m3, m4⟩ := graph_marks g xs h hl
      exact laws_FnExactAloneOuts_p12 _ _ _ _ _ _ _ _ _ _ _ _ _ _ _ _ _ _ _ _ _ _ _ _ _ _ _ _ _ _ _ _ _ _ _ _ _ _ _ ⟨s, dF (by omega), s2, dF (by omega), t, tr, sp, t, tr, i, eq, rfl, t, laws_eqGraph_ret' g g true (by simp) h, rfl, tr, laws_eqRecordS_ret' xs _ true (decide_eq_true rfl) hl, rfl, markGraph_ret g h m2, laws_markRecordS_ret xs _ (by omega) m4 hl, dF (by omega), eq, rfl, laws_markCellS_ret cs 1 (by omega) tn.2 hr, hd, ng, ne, t, tr, i, eq, rfl, hd, ng, ne, trivial⟩
    · rw [leftOf_neg (by omega)] at s2
      exact laws_FnExactAloneOuts_p1 _ _ _ _ _ _ _ ⟨s, dF (by omega), s2, rfl, trivial⟩
  · rw [leftOf_neg (by omega)] at s
    exact laws_FnExactAloneOuts_p0 _ _ _ _ _ _ ⟨s, rfl, trivial⟩
end Go.Proofs.Ytbbjajmimckabaa
