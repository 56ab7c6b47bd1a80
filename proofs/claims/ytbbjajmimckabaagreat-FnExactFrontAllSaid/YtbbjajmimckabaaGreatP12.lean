/- IsDone, InputsLeft, SafeAt: what program and reference compute. -/
import Derived.Test.YtbbjajmimckabaaGreatP11
import Derived.Test.YtbbjajmimckabaaGreatC3
set_option linter.unusedVariables false
set_option linter.unusedSimpArgs false
namespace Go.Proofs.YtbbjajmimckabaaGreat
open Go.Sx Go.RowKit

def isDone (w : Worker) (e : Int) : Bool := w.dones.any fun d => d.epoch == e

theorem Worker.dones_le {w : Worker} (h : w.sz ≤ 1048576) : w.dones.length ≤ 1048576 := by simp only [Worker.sz] at h; omega
theorem Cluster.worker_sz {c : Cluster} (h : c.sz ≤ 1048576) {w : Worker} (hl : w ∈ c.workers) : w.sz ≤ 1048576 := by
  have := le_sum (sz := Worker.sz) hl
  simp only [Cluster.sz, szS] at h; omega
theorem Cluster.news_le {c : Cluster} (h : c.sz ≤ 1048576) : c.news.length ≤ 1048576 := by simp only [Cluster.sz, szS] at h; omega

theorem spec_IsDone_ret (w : Worker) (e : Int) (hw : w.sz ≤ 1048576) : Ret Tryz.prog 53 [.agg w.e, .one (I e)] [.one (B (isDone w e))] := by
  have hl := Worker.dones_le hw
  have l := loop_scan (P := Tryz.prog) (c := (loopOf Tryz.f53 0)) w.dones (fun d => d.epoch == e) (fun i => spec_IsDone_L0 (w.queue.map Record.e) (w.staged.map Record.e) (w.inputs.map Record.e) (w.cells.map Cell.e) (w.sums.map eI) (w.black.map eB) (w.caps.map eB) (w.dones.map Done.e) e i) (X := fun _ _ => spec_IsDone_X0 true) ret_ne (exit_ne 0)
    (fun i a ha h => spec_IsDone_L0_s1 _ _ _ _ _ _ _ _ _ _ _ _ ⟨lt1 (lt_of ha), lt0, lt2 (lt_of ha), at_map Done.e ha, h, up1 (lt_of ha) hl, trivial⟩)
    (fun i a ha h => spec_IsDone_L0_x0 _ _ _ _ _ _ _ _ _ _ _ _ ⟨lt1 (lt_of ha), lt0, lt2 (lt_of ha), at_map Done.e ha, h, trivial⟩)
    (spec_IsDone_L0_x2 _ _ _ _ _ _ _ _ _ _ ⟨ge1, trivial⟩)
  unfold isDone
  rcases l with ⟨_, _, h1, h2⟩ | ⟨i, a, _, _, _, _, h1, h2⟩
  · rw [h1]; exact spec_IsDone_p1 _ _ _ _ _ _ _ _ _ ⟨h2, trivial⟩
  · rw [h1]; exact spec_IsDone_p0 _ _ _ _ _ _ _ _ _ _ ⟨h2, trivial⟩

theorem impl_doneAt_ret (xs : List Done) (e : Int) (hl : xs.length ≤ 1048576) : Ret Tryz.prog 92 [.one (.sl 2 (xs.map Done.e)), .one (I e)] [.one (B (xs.any fun d => d.epoch == e))] :=
  impl_doneAt_p0 _ _ _ ⟨slices_ContainsFunc_Done_ret xs (fun d => d.epoch == e) _ _ hl (by kernel_rfl) (fun x _ => impl_doneAt_1_p0 _ _ _ trivial), trivial⟩

theorem impl_IsDone_ret (w : Worker) (e : Int) (hw : w.sz ≤ 1048576) : Ret Tryz.prog 57 [.agg w.e, .one (I e)] [.one (B (isDone w e))] :=
  impl_IsDone_p0 _ _ _ _ _ _ _ _ _ _ ⟨impl_doneAt_ret w.dones e (Worker.dones_le hw), trivial⟩

/-! ### InputsLeft -/
def inputsLeft (c : Cluster) (e : Int) : List Record := c.workers.flatMap fun w => ofEpoch e w.inputs

theorem ofEpoch_le (e : Int) (xs : List Record) : (ofEpoch e xs).length ≤ xs.length := List.length_filter_le ..

theorem inputsTo_le {c : Cluster} (h : c.sz ≤ 1048576) (e : Int) (i : Nat) : ((c.workers.take i).flatMap fun w => ofEpoch e w.inputs).length ≤ 1048576 := by
  have h1 := flatMap_take_le (fun w : Worker => ofEpoch e w.inputs) c.workers i
  have h2 := flatMap_le (fun w : Worker => ofEpoch e w.inputs) Worker.sz (fun w => by have := ofEpoch_le e w.inputs; simp only [Worker.sz]; omega) c.workers
  simp only [Cluster.sz, szS] at h
  omega

theorem spec_InputsLeft_ret (c : Cluster) (e : Int) (hc : c.sz ≤ 1048576) : Ret Tryz.prog 54 [.agg c.e, .one (I e)] [.one (.sl 5 ((inputsLeft c e).map Record.e))] := by
  have l := loop_upto (P := Tryz.prog) (c := (loopOf Tryz.f54 0)) (exit_ne 0) c.workers.length (fun i : Nat => spec_InputsLeft_L0 (c.graph.nodes.map Node.e) c.graph.workers c.graph.cap (c.workers.map Worker.e) (c.links.map Link.e) (c.tokens.map Token.e) (c.news.map News.e) e i (((c.workers.take i).flatMap fun w => ofEpoch e w.inputs).map Record.e)) (fun i hi => by
    obtain ⟨w, hw⟩ := get_of hi
    have h1 := flatMap_take (fun w : Worker => ofEpoch e w.inputs) hw
    have h2 := inputsTo_le hc e (i + 1)
    have h3 := Cluster.worker_sz hc (mem_of hw)
    rw [h1, List.length_append] at h2
    rw [h1, List.map_append]
    exact spec_InputsLeft_L0_s0 _ _ _ _ _ _ _ _ _ _ _ _ _ _ _ _ _ _ _ ⟨lt1 hi, lt0, lt2 hi, at_map Worker.e hw, spec_OfEpoch_ret w.inputs e (by simp only [Worker.sz] at h3; omega), by simp only [List.length_map]; omega, by simp only [List.length_map]; omega, flat_map _ Record.flat _, up1 hi (Cluster.wlen_le hc), trivial⟩) (spec_InputsLeft_L0_x1 _ _ _ _ _ _ _ _ _ _ ⟨ge1, trivial⟩)
  rw [List.take_length] at l
  exact spec_InputsLeft_p0 _ _ _ _ _ _ _ _ _ ⟨l, trivial⟩

theorem impl_InputsLeft_ret (c : Cluster) (e : Int) (hc : c.sz ≤ 1048576) : Ret Tryz.prog 60 [.agg c.e, .one (I e)] [.one (.sl 5 ((inputsLeft c e).map Record.e))] := by
  have l := loop_upto (P := Tryz.prog) (c := (loopOf Tryz.f60 0)) (exit_ne 0) c.workers.length (fun i : Nat => impl_InputsLeft_L0 (c.workers.map Worker.e) e i (((c.workers.take i).flatMap fun w => ofEpoch e w.inputs).map Record.e)) (fun i hi => by
    obtain ⟨w, hw⟩ := get_of hi
    have h1 := flatMap_take (fun w : Worker => ofEpoch e w.inputs) hw
    have h2 := inputsTo_le hc e (i + 1)
    have h3 := Cluster.worker_sz hc (mem_of hw)
    rw [h1, List.length_append] at h2
    rw [h1, List.map_append]
    exact impl_InputsLeft_L0_s0 _ _ _ _ _ _ _ _ _ _ _ _ _ ⟨lt1 hi, lt0, lt2 hi, at_map Worker.e hw, impl_OfEpoch_ret w.inputs e (by simp only [Worker.sz] at h3; omega), by simp only [List.length_map]; omega, by simp only [List.length_map]; omega, flat_map _ Record.flat _, up1 hi (Cluster.wlen_le hc), trivial⟩) (impl_InputsLeft_L0_x1 _ _ _ _ ⟨ge1, trivial⟩)
  rw [List.take_length] at l
  exact impl_InputsLeft_p0 _ _ _ _ _ _ _ _ _ ⟨l, trivial⟩

/-! ### SafeAt -/
def toldW (c : Cluster) (e : Int) : Bool := c.workers.any fun w => isDone w e
def toldN (c : Cluster) (e : Int) : Bool := c.news.any fun x => x.epoch == e
def safeAt (c : Cluster) (e : Int) : Bool := !(toldW c e || toldN c e) || (decide ((pendOf c e).length = 0) && decide ((inputsLeft c e).length = 0))

theorem any_take {α : Type} (p : α → Bool) {xs : List α} {i : Nat} {a : α} (h : xs[i]? = some a) : (xs.take (i + 1)).any p = ((xs.take i).any p || p a) := by
  simp [List.take_add_one, h, List.any_append]

theorem spec_IsDone_ret' (w : Worker) (e : Int) (r : Bool) (h : isDone w e = r) (hw : w.sz ≤ 1048576) : Ret Tryz.prog 53 [.agg w.e, .one (I e)] [.one (B r)] := h ▸ spec_IsDone_ret w e hw

theorem len0 {α : Type} {f : α → List D} (xs : List α) (b : Bool) (h : decide (xs.length = 0) = b) : ((↑(xs.map f).length : Int) == 0) = b := by
  subst h
  by_cases h : xs.length = 0
  · simp [h]
  · rw [show decide (xs.length = 0) = false from dF h]
    simp only [List.length_map, beq_eq_false_iff_ne, ne_eq]
    omega

theorem spec_SafeAt_ret (c : Cluster) (e : Int) (hc : c.sz ≤ 1048576) : Ret Tryz.prog 23 [.agg c.e, .one (I e)] [.one (B (safeAt c e))] := by
  have l0 : LoopOk Tryz.prog (loopOf Tryz.f23 0) (spec_SafeAt_L0 (c.graph.nodes.map Node.e) c.graph.workers c.graph.cap (c.workers.map Worker.e) (c.links.map Link.e) (c.tokens.map Token.e) (c.news.map News.e) e 0 false) (.exit 0) (spec_SafeAt_X0 (c.graph.nodes.map Node.e) c.graph.workers c.graph.cap (c.workers.map Worker.e) (c.links.map Link.e) (c.tokens.map Token.e) (c.news.map News.e) e (toldW c e)) := by
    have l := loop_upto (P := Tryz.prog) (c := (loopOf Tryz.f23 0)) (exit_ne 0) c.workers.length (fun i : Nat => spec_SafeAt_L0 (c.graph.nodes.map Node.e) c.graph.workers c.graph.cap (c.workers.map Worker.e) (c.links.map Link.e) (c.tokens.map Token.e) (c.news.map News.e) e i ((c.workers.take i).any fun w => isDone w e)) (fun i hi => by
      obtain ⟨w, hw⟩ := get_of hi
      rw [any_take _ hw]
      cases h : (c.workers.take i).any fun w => isDone w e with
      | true =>
        rw [Bool.true_or]
        exact spec_SafeAt_L0_s0 _ _ _ _ _ _ _ _ _ _ ⟨lt1 hi, rfl, up1 hi (Cluster.wlen_le hc), trivial⟩
      | false =>
        rw [Bool.false_or]
        exact spec_SafeAt_L0_s1 _ _ _ _ _ _ _ _ _ _ _ _ _ _ _ _ _ _ _ ⟨lt1 hi, rfl, lt0, lt2 hi, at_map Worker.e hw, spec_IsDone_ret w e (Cluster.worker_sz hc (mem_of hw)), up1 hi (Cluster.wlen_le hc), trivial⟩) (spec_SafeAt_L0_x2 _ _ _ _ _ _ _ _ _ _ ⟨ge1, trivial⟩)
    rw [List.take_length] at l
    exact l
  have l1 : LoopOk Tryz.prog (loopOf Tryz.f23 1) (spec_SafeAt_L1 (c.graph.nodes.map Node.e) c.graph.workers c.graph.cap (c.workers.map Worker.e) (c.links.map Link.e) (c.tokens.map Token.e) (c.news.map News.e) e 0 (toldW c e)) (.exit 2) (spec_SafeAt_X1 (c.graph.nodes.map Node.e) c.graph.workers c.graph.cap (c.workers.map Worker.e) (c.links.map Link.e) (c.tokens.map Token.e) (c.news.map News.e) e (toldW c e || toldN c e)) := by
    have l := loop_upto (P := Tryz.prog) (c := (loopOf Tryz.f23 1)) (exit_ne 2) c.news.length (fun i : Nat => spec_SafeAt_L1 (c.graph.nodes.map Node.e) c.graph.workers c.graph.cap (c.workers.map Worker.e) (c.links.map Link.e) (c.tokens.map Token.e) (c.news.map News.e) e i (toldW c e || (c.news.take i).any fun x => x.epoch == e)) (fun i hi => by
      obtain ⟨w, hw⟩ := get_of hi
      rw [any_take _ hw, ← Bool.or_assoc]
      cases h : (toldW c e || (c.news.take i).any fun x => x.epoch == e) with
      | true =>
        rw [Bool.true_or]
        exact spec_SafeAt_L1_s0 _ _ _ _ _ _ _ _ _ _ ⟨lt1 hi, rfl, up1 hi (Cluster.news_le hc), trivial⟩
      | false =>
        rw [Bool.false_or]
        exact spec_SafeAt_L1_s1 _ _ _ _ _ _ _ _ _ _ _ _ _ ⟨lt1 hi, rfl, lt0, lt2 hi, at_map News.e hw, up1 hi (Cluster.news_le hc), trivial⟩) (spec_SafeAt_L1_x2 _ _ _ _ _ _ _ _ _ _ ⟨ge1, trivial⟩)
    simp only [List.take_zero, List.any_nil, Bool.or_false] at l
    rw [List.take_length] at l
    exact l
  have p := spec_PendingOf_ret c e hc
  have q := spec_InputsLeft_ret c e hc
  unfold safeAt
  generalize (toldW c e || toldN c e) = b at *
  cases b with
  | false => exact spec_SafeAt_p0 _ _ _ _ _ _ _ _ _ _ ⟨l0, l1, rfl, trivial⟩
  | true =>
    rw [Bool.not_true, Bool.false_or]
    cases h : decide ((pendOf c e).length = 0) with
    | true =>
      rw [Bool.true_and, ← len0 (f := Record.e) (inputsLeft c e) _ rfl]
      exact spec_SafeAt_p1 _ _ _ _ _ _ _ _ _ _ _ _ ⟨l0, l1, rfl, p, len0 _ _ h, q, trivial⟩
    | false =>
      rw [Bool.false_and]
      exact spec_SafeAt_p2 _ _ _ _ _ _ _ _ _ _ _ ⟨l0, l1, rfl, p, len0 _ _ h, trivial⟩

theorem impl_SafeAt_ret (c : Cluster) (e : Int) (hc : c.sz ≤ 1048576) : Ret Tryz.prog 24 [.agg c.e, .one (I e)] [.one (B (safeAt c e))] := by
  have p := impl_PendingOf_ret c e hc
  have q := impl_InputsLeft_ret c e hc
  have w := slices_ContainsFunc_Worker_ret c.workers (fun w => isDone w e) 56 [D.ptr [I e]] (Cluster.wlen_le hc) (by kernel_rfl) (fun x hx => impl_SafeAt_1_p0 _ _ _ _ _ _ _ _ _ _ ⟨impl_IsDone_ret x e (Cluster.worker_sz hc hx), trivial⟩)
  have n := slices_ContainsFunc_News_ret c.news (fun x => x.epoch == e) 59 [D.ptr [I e]] (Cluster.news_le hc) (by kernel_rfl) (fun x hx => impl_SafeAt_2_p0 _ _ _ _ trivial)
  change Ret _ _ _ [.one (B (toldW c e))] at w
  change Ret _ _ _ [.one (B (toldN c e))] at n
  unfold safeAt
  generalize toldW c e = b1 at *
  generalize toldN c e = b2 at *
  cases b1 with
  | true =>
    rw [Bool.true_or, Bool.not_true, Bool.false_or]
    cases h : decide ((pendOf c e).length = 0) with
    | true =>
      rw [Bool.true_and, ← len0 (f := Record.e) (inputsLeft c e) _ rfl]
      exact impl_SafeAt_p0 _ _ _ _ _ _ _ _ _ _ _ ⟨w, rfl, p, len0 _ _ h, q, trivial⟩
    | false =>
      rw [Bool.false_and]
      exact impl_SafeAt_p1 _ _ _ _ _ _ _ _ _ _ ⟨w, rfl, p, len0 _ _ h, trivial⟩
  | false =>
    rw [Bool.false_or]
    cases b2 with
    | false => exact impl_SafeAt_p2 _ _ _ _ _ _ _ _ _ _ ⟨w, rfl, n, rfl, trivial⟩
    | true =>
      rw [Bool.not_true, Bool.false_or]
      cases h : decide ((pendOf c e).length = 0) with
      | true =>
        rw [Bool.true_and, ← len0 (f := Record.e) (inputsLeft c e) _ rfl]
        exact impl_SafeAt_p3 _ _ _ _ _ _ _ _ _ _ _ _ ⟨w, rfl, n, rfl, p, len0 _ _ h, q, trivial⟩
      | false =>
        rw [Bool.false_and]
        exact impl_SafeAt_p4 _ _ _ _ _ _ _ _ _ _ _ ⟨w, rfl, n, rfl, p, len0 _ _ h, trivial⟩
end Go.Proofs.YtbbjajmimckabaaGreat
