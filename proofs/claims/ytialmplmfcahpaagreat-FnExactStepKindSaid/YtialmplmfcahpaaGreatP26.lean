/- Produced, StepKind: what program and reference compute. -/
import Derived.Test.YtialmplmfcahpaaGreatP7
import Derived.Test.YtialmplmfcahpaaGreatP18
import Derived.Test.YtialmplmfcahpaaGreatC5
set_option linter.unusedVariables false
set_option linter.unusedSimpArgs false
namespace Go.Proofs.YtialmplmfcahpaaGreat
open Go.Sx Go.RowKit Go.Sort Go.Proofs.Tryz
def qa0 (c : Cluster) (p : Pick) : List Record :=
  if (qaC c p).2 then
    (if p.kind == 2 then [(qaC c p).1] else match qbD c p.a with | some w => (qbw c.graph w.cells (qaC c p).1).2.1 | none => [])
  else []
theorem qm1 {c : Cluster} {p : Pick} (h : (qaC c p).2 = true) : ∃ w, qbD c p.a = some w := by
  unfold qaC at h
  split at h
  · cases h
  · exact ⟨_, ‹_›⟩
theorem Worker.cells_le {w : Worker} (h : w.sz ≤ 1048576) : w.cells.length ≤ 1048576 := by simp only [Worker.sz] at h; omega
theorem Cluster.graph_sz' {c : Cluster} (h : c.sz ≤ 1048576) : c.graph.sz ≤ 1048576 := by simp only [Cluster.sz] at h; omega
theorem qjP {c : Cluster} {a : Int} {w : Worker} (h : qbD c a = some w) : w ∈ c.workers := by
  unfold qbD at h
  split at h
  · exact List.mem_of_getElem? h
  · cases h
theorem Cluster.worker_sz' {c : Cluster} (h : c.sz ≤ 1048576) {w : Worker} (hl : w ∈ c.workers) : w.sz ≤ 1048576 := by
  have := qcQ (sz := Worker.sz) hl
  simp only [Cluster.sz, szS] at h; omega
theorem qm2 (c : Cluster) (p : Pick) (hc : c.sz ≤ 1048576) : Ret prog 15 [.agg c.e, .agg p.e] [.one (.sl 5 ((qa0 c p).map Record.e))] := by
  have cc := qmc c p hc
  unfold qa0
  have hw := fun h => qm1 (c := c) (p := p) h
  generalize qaC c p = x at *
  obtain ⟨r, b⟩ := x
  cases b with
  | false => exact qCy _ _ _ _ _ _ _ _ _ _ _ _ _ _ _ _ ⟨cc, rfl, trivial⟩
  | true =>
    cases hk : p.kind == 2 with
    | true => exact qCz _ _ _ _ _ _ _ _ _ _ _ _ _ _ _ _ ⟨cc, rfl, hk, trivial⟩
    | false =>
      obtain ⟨w, h⟩ := hw rfl
      obtain ⟨h1, h2, h3, _⟩ := qgC h
      have s := qB1 c.graph w.cells r (Cluster.graph_sz' hc) (Worker.cells_le (Cluster.worker_sz' hc (qjP h)))
      rw [h]
      exact qCA _ _ _ _ _ _ _ _ _ _ _ _ _ _ _ _ _ _ _ _ _ _ _ _ _ _ _ ⟨cc, rfl, hk, h1, h2, h3, s, trivial⟩
theorem qm3 (c : Cluster) (p : Pick) (hc : c.sz ≤ 1048576) : Ret prog 18 [.agg c.e, .agg p.e] [.one (.sl 5 ((qa0 c p).map Record.e))] := by
  have cc := qmd c p hc
  unfold qa0
  have hw := fun h => qm1 (c := c) (p := p) h
  generalize qaC c p = x at *
  obtain ⟨r, b⟩ := x
  cases b with
  | false => exact qCB _ _ _ _ _ _ _ _ _ _ _ _ _ _ _ _ ⟨cc, rfl, trivial⟩
  | true =>
    cases hk : p.kind == 2 with
    | true => exact qCC _ _ _ _ _ _ _ _ _ _ _ _ _ _ _ _ ⟨cc, rfl, hk, trivial⟩
    | false =>
      obtain ⟨w, h⟩ := hw rfl
      obtain ⟨h1, h2, h3, _⟩ := qgC h
      have s := qB2 c.graph w.cells r (Cluster.graph_sz' hc) (Worker.cells_le (Cluster.worker_sz' hc (qjP h)))
      rw [h]
      exact qCD _ _ _ _ _ _ _ _ _ _ _ _ _ _ _ _ _ _ _ _ _ _ _ _ _ _ _ ⟨cc, rfl, hk, h1, h2, h3, s, trivial⟩
theorem qm4 (c : Cluster) (p : Pick) : (qa0 c p).length ≤ 2 := by
  unfold qa0
  split
  · split
    · simp
    · split
      · rename_i w h
        by_cases hg : qaE c.graph = true
        · exact (qB5 hg w.cells _).2
        · have e : (qbw c.graph w.cells (qaC c p).1).2.1 = [] := by
            unfold qbw
            split
            · unfold qar
              simp [hg]
            · rfl
          rw [e]; simp
      · simp
  · simp
def cutIn (w : Int) (k i : Nat) (x : Worker) : List Record := if (i : Int) = w ∧ k ≤ x.inputs.length then x.inputs.drop k else x.inputs
def qcI (b : Cluster) (w : Int) (k i : Nat) (x : Worker) : Bool := match b.workers[i]? with | some y => !decide (cutIn w k i x = y.inputs) | none => false
def qcX (a b : Cluster) (w : Int) (k : Nat) : Bool := decide (a.workers.length = b.workers.length) && !anyI (qcI b w k) 0 a.workers
theorem qEg (w : Int) (i : Nat) (x : Worker) : cutIn w 0 i x = x.inputs := by unfold cutIn; split <;> simp
theorem qEh (a b : Cluster) (v w : Int) : qcX a b v 0 = qcX a b w 0 := by
  have : qcI b v 0 = qcI b w 0 := by funext i x; simp only [qcI, qEg]
  unfold qcX
  rw [this]
theorem qg6 {w : Int} {k i : Nat} {x : Worker} (h : x.sz ≤ 1048576) : (cutIn w k i x).length ≤ 1048576 := by
  have : x.inputs.length ≤ 1048576 := by simp only [Worker.sz] at h; omega
  unfold cutIn
  split
  · simp; omega
  · exact this
theorem qg7 (xs : List Record) (k : Nat) : List.take ((xs.map Record.e).length - (((some (k : Int)).getD 0)).toNat) (List.drop (((some (k : Int)).getD 0)).toNat (xs.map Record.e)) = (xs.drop k).map Record.e := by
  simp only [Option.getD_some, Int.toNat_natCast]
  rw [List.take_of_length_le (by simp), List.map_drop]
theorem wlen {c : Cluster} (h : c.sz ≤ 1048576) : c.workers.length ≤ 1048576 := by simp only [Cluster.sz, szS] at h; omega
theorem qm5 (a b : Cluster) (w : Int) (k : Nat) (ha : a.sz ≤ 1048576) (hk : k ≤ 1) : Ret prog 81 [.agg a.e, .agg b.e, .one (I w), .one (I k)] [.one (B (qcX a b w k))] := by
  unfold qcX
  by_cases hl : a.workers.length = b.workers.length
  · rw [dT hl, Bool.true_and]
    have l := qf3 (P := prog) (c := (qaa f81 0)) a.workers (qcI b w k) (fun i => qbG (a.graph.nodes.map Node.e) a.graph.workers a.graph.cap (a.workers.map Worker.e) (a.links.map Link.e) (a.tokens.map Token.e) (a.news.map News.e) (b.graph.nodes.map Node.e) b.graph.workers b.graph.cap (b.workers.map Worker.e) (b.links.map Link.e) (b.tokens.map Token.e) (b.news.map News.e) w k i) (X := qeS false) qaD (qah 0)
      (fun i x hx h => by
        obtain ⟨y, hy⟩ := qag (xs := b.workers) (i := i) (by have := lt_of hx; omega)
        have hs := qg6 (w := w) (k := k) (i := i) (Cluster.worker_sz' ha (qaG hx))
        have hi : x.inputs.length ≤ 1048576 := by have := Cluster.worker_sz' ha (qaG hx); simp only [Worker.sz] at this; omega
        simp only [qcI, hy, Bool.not_eq_false'] at h
        unfold cutIn at h hs
        by_cases h1 : (i : Int) = w
        · by_cases h2 : k ≤ x.inputs.length
          · rw [if_pos ⟨h1, h2⟩] at h hs
            have c := qeX _ _ true h hs
            rw [← qg7] at c
            exact qCG _ _ _ _ _ _ _ _ _ _ _ _ _ _ _ _ _ _ _ _ _ _ _ _ _ _ _ _ _ _ _ _ _ _ ⟨lt1 (lt_of hx), lt0, lt2 (lt_of hx), qae Worker.e hx, by simp [h1], dT (by simp only [List.length_map]; omega), by simp, by simp; omega, by simp, lt0, lt2 (lt_of hy), qae Worker.e hy, c, rfl, up1 (lt_of hx) (wlen ha), trivial⟩
          · rw [if_neg (fun e => h2 e.2)] at h hs
            exact qCI _ _ _ _ _ _ _ _ _ _ _ _ _ _ _ _ _ _ _ _ _ _ _ _ _ _ _ _ _ _ _ _ _ _ ⟨lt1 (lt_of hx), lt0, lt2 (lt_of hx), qae Worker.e hx, by simp [h1], dF (by simp only [List.length_map]; omega), lt0, lt2 (lt_of hy), qae Worker.e hy, qeX _ _ true h hs, rfl, up1 (lt_of hx) (wlen ha), trivial⟩
        · rw [if_neg (fun e => h1 e.1)] at h hs
          exact qCK _ _ _ _ _ _ _ _ _ _ _ _ _ _ _ _ _ _ _ _ _ _ _ _ _ _ _ _ _ _ _ _ _ _ ⟨lt1 (lt_of hx), lt0, lt2 (lt_of hx), qae Worker.e hx, by simp [h1], lt0, lt2 (lt_of hy), qae Worker.e hy, qeX _ _ true h hs, rfl, up1 (lt_of hx) (wlen ha), trivial⟩)
      (fun i x hx h => by
        obtain ⟨y, hy⟩ := qag (xs := b.workers) (i := i) (by have := lt_of hx; omega)
        have hs := qg6 (w := w) (k := k) (i := i) (Cluster.worker_sz' ha (qaG hx))
        simp only [qcI, hy, Bool.not_eq_true'] at h
        unfold cutIn at h hs
        by_cases h1 : (i : Int) = w
        · by_cases h2 : k ≤ x.inputs.length
          · rw [if_pos ⟨h1, h2⟩] at h hs
            have c := qeX _ _ false h hs
            rw [← qg7] at c
            exact qCF _ _ _ _ _ _ _ _ _ _ _ _ _ _ _ _ _ _ _ _ _ _ _ _ _ _ _ _ _ _ _ _ _ _ ⟨lt1 (lt_of hx), lt0, lt2 (lt_of hx), qae Worker.e hx, by simp [h1], dT (by simp only [List.length_map]; omega), by simp, by simp; omega, by simp, lt0, lt2 (lt_of hy), qae Worker.e hy, c, rfl, trivial⟩
          · rw [if_neg (fun e => h2 e.2)] at h hs
            exact qCH _ _ _ _ _ _ _ _ _ _ _ _ _ _ _ _ _ _ _ _ _ _ _ _ _ _ _ _ _ _ _ _ _ _ ⟨lt1 (lt_of hx), lt0, lt2 (lt_of hx), qae Worker.e hx, by simp [h1], dF (by simp only [List.length_map]; omega), lt0, lt2 (lt_of hy), qae Worker.e hy, qeX _ _ false h hs, rfl, trivial⟩
        · rw [if_neg (fun e => h1 e.1)] at h hs
          exact qCJ _ _ _ _ _ _ _ _ _ _ _ _ _ _ _ _ _ _ _ _ _ _ _ _ _ _ _ _ _ _ _ _ _ _ ⟨lt1 (lt_of hx), lt0, lt2 (lt_of hx), qae Worker.e hx, by simp [h1], lt0, lt2 (lt_of hy), qae Worker.e hy, qeX _ _ false h hs, rfl, trivial⟩)
      (qCL _ _ _ _ _ _ _ _ _ _ _ _ _ _ _ _ _ ⟨ge1, trivial⟩)
    rcases l with ⟨h, l⟩ | ⟨h, l⟩
    · rw [h]; exact qCN _ _ _ _ _ _ _ _ _ _ _ _ _ _ _ _ ⟨lenNe hl, l, trivial⟩
    · rw [h]; exact qCM _ _ _ _ _ _ _ _ _ _ _ _ _ _ _ _ _ ⟨lenNe hl, l, trivial⟩
  · rw [dF hl, Bool.false_and]
    exact qCE _ _ _ _ _ _ _ _ _ _ _ _ _ _ _ _ ⟨qeW hl, trivial⟩
theorem qm6 (a b : Cluster) (w : Int) (k : Nat) (ha : a.sz ≤ 1048576) (hw : ∀ (i : Nat) (x : Worker), a.workers[i]? = some x → (i : Int) = w → k ≤ x.inputs.length) : Ret prog 85 [.agg a.e, .agg b.e, .one (I w), .one (I k)] [.one (B (qcX a b w k))] := by
  unfold qcX
  by_cases hl : a.workers.length = b.workers.length
  · rw [dT hl, Bool.true_and]
    have l := qf3 (P := prog) (c := (qaa f85 0)) a.workers (qcI b w k) (fun i => qcG (a.workers.map Worker.e) w k i (b.graph.nodes.map Node.e) b.graph.workers b.graph.cap (b.workers.map Worker.e) (b.links.map Link.e) (b.tokens.map Token.e) (b.news.map News.e)) (X := qfw false) qaD (qah 0)
      (fun i x hx h => by
        obtain ⟨y, hy⟩ := qag (xs := b.workers) (i := i) (by have := lt_of hx; omega)
        have hs := qg6 (w := w) (k := k) (i := i) (Cluster.worker_sz' ha (qaG hx))
        simp only [qcI, hy, Bool.not_eq_false'] at h
        unfold cutIn at h hs
        by_cases h1 : (i : Int) = w
        · have h2 := hw i x hx h1
          rw [if_pos ⟨h1, h2⟩] at h hs
          have c := qg5 _ _ true h hs
          rw [← qg7] at c
          exact qCQ _ _ _ _ _ _ _ _ _ _ _ _ _ _ _ _ _ _ _ _ _ _ _ _ _ _ _ _ ⟨lt1 (lt_of hx), lt0, lt2 (lt_of hx), qae Worker.e hx, by simp [h1], by simp, by simp; omega, by simp, lt0, lt2 (lt_of hy), qae Worker.e hy, c, rfl, up1 (lt_of hx) (wlen ha), trivial⟩
        · rw [if_neg (fun e => h1 e.1)] at h hs
          exact qCS _ _ _ _ _ _ _ _ _ _ _ _ _ _ _ _ _ _ _ _ _ _ _ _ _ _ _ _ ⟨lt1 (lt_of hx), lt0, lt2 (lt_of hx), qae Worker.e hx, by simp [h1], lt0, lt2 (lt_of hy), qae Worker.e hy, qg5 _ _ true h hs, rfl, up1 (lt_of hx) (wlen ha), trivial⟩)
      (fun i x hx h => by
        obtain ⟨y, hy⟩ := qag (xs := b.workers) (i := i) (by have := lt_of hx; omega)
        have hs := qg6 (w := w) (k := k) (i := i) (Cluster.worker_sz' ha (qaG hx))
        simp only [qcI, hy, Bool.not_eq_true'] at h
        unfold cutIn at h hs
        by_cases h1 : (i : Int) = w
        · have h2 := hw i x hx h1
          rw [if_pos ⟨h1, h2⟩] at h hs
          have c := qg5 _ _ false h hs
          rw [← qg7] at c
          exact qCP _ _ _ _ _ _ _ _ _ _ _ _ _ _ _ _ _ _ _ _ _ _ _ _ _ _ _ _ ⟨lt1 (lt_of hx), lt0, lt2 (lt_of hx), qae Worker.e hx, by simp [h1], by simp, by simp; omega, by simp, lt0, lt2 (lt_of hy), qae Worker.e hy, c, rfl, trivial⟩
        · rw [if_neg (fun e => h1 e.1)] at h hs
          exact qCR _ _ _ _ _ _ _ _ _ _ _ _ _ _ _ _ _ _ _ _ _ _ _ _ _ _ _ _ ⟨lt1 (lt_of hx), lt0, lt2 (lt_of hx), qae Worker.e hx, by simp [h1], lt0, lt2 (lt_of hy), qae Worker.e hy, qg5 _ _ false h hs, rfl, trivial⟩)
      (qCT _ _ _ _ _ _ _ _ _ _ _ ⟨ge1, trivial⟩)
    rcases l with ⟨h, l⟩ | ⟨h, l⟩
    · rw [h]; exact qCV _ _ _ _ _ _ _ _ _ _ _ _ _ _ _ _ ⟨lenNe hl, l, trivial⟩
    · rw [h]; exact qCU _ _ _ _ _ _ _ _ _ _ _ _ _ _ _ _ _ ⟨lenNe hl, l, trivial⟩
  · rw [dF hl, Bool.false_and]
    exact qCO _ _ _ _ _ _ _ _ _ _ _ _ _ _ _ _ ⟨qeW hl, trivial⟩
def qem (xs ys : List Record) : Bool := decide (sortI (ltOf qaO) xs = sortI (ltOf qaO) ys)
theorem qm7 (xs ys : List Record) (hx : xs.length ≤ 1048576) (hy : ys.length ≤ 1048576) : Ret prog 82 [.one (.sl 5 (xs.map Record.e)), .one (.sl 5 (ys.map Record.e))] [.one (B (qem xs ys))] := by
  unfold qem
  by_cases hl : xs.length = ys.length
  · exact qCu _ _ _ _ _ ⟨by simp [hl], qjk xs hx, qjk ys hy, qjN _ _ (by rw [qfq]; exact hx), trivial⟩
  · rw [dF (fun e => hl (by have := congrArg List.length e; rwa [qfq, qfq] at this))]
    exact qCv _ _ ⟨by simp; omega, trivial⟩
theorem qm8 (xs ys : List Record) (hx : xs.length ≤ 1048576) (hy : ys.length ≤ 1048576) : Ret prog 87 [.one (.sl 5 (ys.map Record.e)), .one (.sl 5 (xs.map Record.e))] [.one (B (qem xs ys))] := by
  have e : qem xs ys = decide (sortI (ltOf qaO) ys = sortI (ltOf qaO) xs) := by
    unfold qem
    exact decide_eq_decide.2 ⟨Eq.symm, Eq.symm⟩
  rw [e]
  exact qCw _ _ _ _ _ ⟨qjl ys hy, qjl xs hx, qjO _ _ (by rw [qfq]; exact hy), trivial⟩
def qjQ (sS sI0 ok k2 sI1 sG1 k1 sG2 : Bool) : Int :=
  if sS && sI0 then 0 else if ok && k2 && sI1 && sG1 then 1 else if ok && k1 && sI0 && sG2 then 2 else 3
theorem qEi (a b : Cluster) (p : Pick) (r : Record) (xs ys ws ps : List Record) (sS sI0 ok sI1 sG1 sG2 : Bool)
    (cA : Ret prog 79 [.agg a.e] [.one (.sl 5 (xs.map Record.e))]) (cB : Ret prog 79 [.agg b.e] [.one (.sl 5 (ys.map Record.e))])
    (cS : Ret prog 80 [.one (.sl 5 (xs.map Record.e)), .one (.sl 5 (ys.map Record.e))] [.one (B sS)]) (cI0 : Ret prog 81 [.agg a.e, .agg b.e, .one (I 0), .one (I 0)] [.one (B sI0)])
    (cC : Ret prog 59 [.agg a.e, .agg p.e] [.agg r.e, .one (B ok)]) (cI1 : (p.kind == 2) = true → ok = true → Ret prog 81 [.agg a.e, .agg b.e, .one (I p.a), .one (I 1)] [.one (B sI1)])
    (m1 : ((xs.map Record.e).length + [r.e].length) * 40 ≤ 140737488355328) (m2 : (xs.map Record.e).length + [r.e].length ≤ 9223372036854775807) (m3 : Flat [r.e])
    (cG1 : Ret prog 82 [.one (.sl 5 (xs.map Record.e ++ [r.e])), .one (.sl 5 (ys.map Record.e))] [.one (B sG1)])
    (cW : Ret prog 83 [.one (.sl 5 (xs.map Record.e)), .agg r.e] [.one (.sl 5 (ws.map Record.e))]) (cP : Ret prog 15 [.agg a.e, .agg p.e] [.one (.sl 5 (ps.map Record.e))])
    (n1 : ((ws.map Record.e).length + (ps.map Record.e).length) * 40 ≤ 140737488355328) (n2 : (ws.map Record.e).length + (ps.map Record.e).length ≤ 9223372036854775807) (n3 : Flat (ps.map Record.e))
    (cG2 : Ret prog 82 [.one (.sl 5 (ws.map Record.e ++ ps.map Record.e)), .one (.sl 5 (ys.map Record.e))] [.one (B sG2)]) :
    Ret prog 24 [.agg a.e, .agg b.e, .agg p.e] [.one (I (qjQ sS sI0 ok (p.kind == 2) sI1 sG1 (p.kind == 1) sG2))] := by
  cases sS with
  | true =>
    cases sI0 with
    | true =>
      cases ok <;> exact qCW _ _ _ _ _ _ _ _ _ _ _ _ _ _ _ _ _ _ _ _ _ ⟨cA, cB, cS, rfl, cI0, rfl, trivial⟩
    | false =>
      cases ok with
      | true =>
        cases hk2 : p.kind == 2 with
        | true =>
          cases sI1 with
          | true =>
            cases sG1 with
            | true =>
              exact qCX _ _ _ _ _ _ _ _ _ _ _ _ _ _ _ _ _ _ _ _ _ _ _ _ _ _ _ _ _ ⟨cA, cB, cS, rfl, cI0, rfl, cC, rfl, hk2, (cI1 hk2 rfl), rfl, m1, m2, m3, cG1, rfl, trivial⟩
            | false =>
              cases hk1 : p.kind == 1 with
              | true =>
                exact qCY _ _ _ _ _ _ _ _ _ _ _ _ _ _ _ _ _ _ _ _ _ _ _ _ _ _ _ _ _ _ ⟨cA, cB, cS, rfl, cI0, rfl, cC, rfl, hk2, (cI1 hk2 rfl), rfl, m1, m2, m3, cG1, rfl, rfl, hk1, cI0, rfl, trivial⟩
              | false =>
                exact qCZ _ _ _ _ _ _ _ _ _ _ _ _ _ _ _ _ _ _ _ _ _ _ _ _ _ _ _ _ _ ⟨cA, cB, cS, rfl, cI0, rfl, cC, rfl, hk2, (cI1 hk2 rfl), rfl, m1, m2, m3, cG1, rfl, rfl, hk1, trivial⟩
          | false =>
            cases hk1 : p.kind == 1 with
            | true =>
              exact qC0 _ _ _ _ _ _ _ _ _ _ _ _ _ _ _ _ _ _ _ _ _ _ _ _ _ _ _ _ _ ⟨cA, cB, cS, rfl, cI0, rfl, cC, rfl, hk2, (cI1 hk2 rfl), rfl, rfl, hk1, cI0, rfl, trivial⟩
            | false =>
              exact qC1 _ _ _ _ _ _ _ _ _ _ _ _ _ _ _ _ _ _ _ _ _ _ _ _ _ _ _ _ ⟨cA, cB, cS, rfl, cI0, rfl, cC, rfl, hk2, (cI1 hk2 rfl), rfl, rfl, hk1, trivial⟩
        | false =>
          cases hk1 : p.kind == 1 with
          | true =>
            exact qC2 _ _ _ _ _ _ _ _ _ _ _ _ _ _ _ _ _ _ _ _ _ _ _ _ _ _ _ _ ⟨cA, cB, cS, rfl, cI0, rfl, cC, rfl, hk2, rfl, hk1, cI0, rfl, trivial⟩
          | false =>
            exact qC3 _ _ _ _ _ _ _ _ _ _ _ _ _ _ _ _ _ _ _ _ _ _ _ _ _ _ _ ⟨cA, cB, cS, rfl, cI0, rfl, cC, rfl, hk2, rfl, hk1, trivial⟩
      | false =>
        exact qC4 _ _ _ _ _ _ _ _ _ _ _ _ _ _ _ _ _ _ _ _ _ _ _ _ _ _ _ ⟨cA, cB, cS, rfl, cI0, rfl, cC, rfl, rfl, trivial⟩
  | false =>
    cases ok with
    | true =>
      cases hk2 : p.kind == 2 with
      | true =>
        cases sI1 with
        | true =>
          cases sG1 with
          | true =>
            cases sI0 <;> exact qC5 _ _ _ _ _ _ _ _ _ _ _ _ _ _ _ _ _ _ _ _ _ _ _ _ _ _ _ _ ⟨cA, cB, cS, rfl, cC, rfl, hk2, (cI1 hk2 rfl), rfl, m1, m2, m3, cG1, rfl, trivial⟩
          | false =>
            cases hk1 : p.kind == 1 with
            | true =>
              cases sI0 with
              | true =>
                cases sG2 with
                | true =>
                  exact qC6 _ _ _ _ _ _ _ _ _ _ _ _ _ _ _ _ _ _ _ _ _ _ _ _ _ _ _ _ _ _ _ _ ⟨cA, cB, cS, rfl, cC, rfl, hk2, (cI1 hk2 rfl), rfl, m1, m2, m3, cG1, rfl, rfl, hk1, cI0, rfl, cW, cP, n1, n2, n3, cG2, rfl, trivial⟩
                | false =>
                  exact qC7 _ _ _ _ _ _ _ _ _ _ _ _ _ _ _ _ _ _ _ _ _ _ _ _ _ _ _ _ _ _ _ _ ⟨cA, cB, cS, rfl, cC, rfl, hk2, (cI1 hk2 rfl), rfl, m1, m2, m3, cG1, rfl, rfl, hk1, cI0, rfl, cW, cP, n1, n2, n3, cG2, rfl, trivial⟩
              | false =>
                exact qC8 _ _ _ _ _ _ _ _ _ _ _ _ _ _ _ _ _ _ _ _ _ _ _ _ _ _ _ _ _ ⟨cA, cB, cS, rfl, cC, rfl, hk2, (cI1 hk2 rfl), rfl, m1, m2, m3, cG1, rfl, rfl, hk1, cI0, rfl, trivial⟩
            | false =>
              cases sI0 <;> exact qC9 _ _ _ _ _ _ _ _ _ _ _ _ _ _ _ _ _ _ _ _ _ _ _ _ _ _ _ _ ⟨cA, cB, cS, rfl, cC, rfl, hk2, (cI1 hk2 rfl), rfl, m1, m2, m3, cG1, rfl, rfl, hk1, trivial⟩
        | false =>
          cases hk1 : p.kind == 1 with
          | true =>
            cases sI0 with
            | true =>
              cases sG2 with
              | true =>
                exact qDa _ _ _ _ _ _ _ _ _ _ _ _ _ _ _ _ _ _ _ _ _ _ _ _ _ _ _ _ _ _ _ ⟨cA, cB, cS, rfl, cC, rfl, hk2, (cI1 hk2 rfl), rfl, rfl, hk1, cI0, rfl, cW, cP, n1, n2, n3, cG2, rfl, trivial⟩
              | false =>
                exact qDb _ _ _ _ _ _ _ _ _ _ _ _ _ _ _ _ _ _ _ _ _ _ _ _ _ _ _ _ _ _ _ ⟨cA, cB, cS, rfl, cC, rfl, hk2, (cI1 hk2 rfl), rfl, rfl, hk1, cI0, rfl, cW, cP, n1, n2, n3, cG2, rfl, trivial⟩
            | false =>
              exact qDc _ _ _ _ _ _ _ _ _ _ _ _ _ _ _ _ _ _ _ _ _ _ _ _ _ _ _ _ ⟨cA, cB, cS, rfl, cC, rfl, hk2, (cI1 hk2 rfl), rfl, rfl, hk1, cI0, rfl, trivial⟩
          | false =>
            cases sI0 <;> exact qDd _ _ _ _ _ _ _ _ _ _ _ _ _ _ _ _ _ _ _ _ _ _ _ _ _ _ _ ⟨cA, cB, cS, rfl, cC, rfl, hk2, (cI1 hk2 rfl), rfl, rfl, hk1, trivial⟩
      | false =>
        cases hk1 : p.kind == 1 with
        | true =>
          cases sI0 with
          | true =>
            cases sG2 with
            | true =>
              exact qDe _ _ _ _ _ _ _ _ _ _ _ _ _ _ _ _ _ _ _ _ _ _ _ _ _ _ _ _ _ _ ⟨cA, cB, cS, rfl, cC, rfl, hk2, rfl, hk1, cI0, rfl, cW, cP, n1, n2, n3, cG2, rfl, trivial⟩
            | false =>
              exact qDf _ _ _ _ _ _ _ _ _ _ _ _ _ _ _ _ _ _ _ _ _ _ _ _ _ _ _ _ _ _ ⟨cA, cB, cS, rfl, cC, rfl, hk2, rfl, hk1, cI0, rfl, cW, cP, n1, n2, n3, cG2, rfl, trivial⟩
          | false =>
            exact qDg _ _ _ _ _ _ _ _ _ _ _ _ _ _ _ _ _ _ _ _ _ _ _ _ _ _ _ ⟨cA, cB, cS, rfl, cC, rfl, hk2, rfl, hk1, cI0, rfl, trivial⟩
        | false =>
          cases sI0 <;> exact qDh _ _ _ _ _ _ _ _ _ _ _ _ _ _ _ _ _ _ _ _ _ _ _ _ _ _ ⟨cA, cB, cS, rfl, cC, rfl, hk2, rfl, hk1, trivial⟩
    | false =>
      cases sI0 <;> exact qDi _ _ _ _ _ _ _ _ _ _ _ _ _ _ _ _ _ _ _ _ _ _ _ _ _ _ ⟨cA, cB, cS, rfl, cC, rfl, rfl, trivial⟩
theorem qEj (a b : Cluster) (p : Pick) (r : Record) (xs ys ws ps : List Record) (sS sI0 ok sI1 sG1 sG2 : Bool)
    (cA : Ret prog 84 [.agg a.e] [.one (.sl 5 (xs.map Record.e))]) (cB : Ret prog 84 [.agg b.e] [.one (.sl 5 (ys.map Record.e))])
    (cS : Ret prog 86 [.one (.sl 5 (xs.map Record.e)), .one (.sl 5 (ys.map Record.e))] [.one (B sS)]) (cI0 : Ret prog 85 [.agg a.e, .agg b.e, .one (I (-1)), .one (I 0)] [.one (B sI0)])
    (cC : Ret prog 66 [.agg a.e, .agg p.e] [.agg r.e, .one (B ok)]) (cI1 : (p.kind == 2) = true → ok = true → Ret prog 85 [.agg a.e, .agg b.e, .one (I p.a), .one (I 1)] [.one (B sI1)])
    (m1 : ((xs.map Record.e).length + [r.e].length) * 40 ≤ 140737488355328) (m2 : (xs.map Record.e).length + [r.e].length ≤ 9223372036854775807) (m3 : Flat [r.e])
    (cG1 : Ret prog 87 [.one (.sl 5 (ys.map Record.e)), .one (.sl 5 (xs.map Record.e ++ [r.e]))] [.one (B sG1)])
    (cW : Ret prog 88 [.one (.sl 5 (xs.map Record.e)), .agg r.e] [.one (.sl 5 (ws.map Record.e))]) (cP : Ret prog 18 [.agg a.e, .agg p.e] [.one (.sl 5 (ps.map Record.e))])
    (n1 : ((ws.map Record.e).length + (ps.map Record.e).length) * 40 ≤ 140737488355328) (n2 : (ws.map Record.e).length + (ps.map Record.e).length ≤ 9223372036854775807) (n3 : Flat (ps.map Record.e))
    (cG2 : Ret prog 87 [.one (.sl 5 (ys.map Record.e)), .one (.sl 5 (ws.map Record.e ++ ps.map Record.e))] [.one (B sG2)]) :
    Ret prog 25 [.agg a.e, .agg b.e, .agg p.e] [.one (I (qjQ sS sI0 ok (p.kind == 2) sI1 sG1 (p.kind == 1) sG2))] := by
  cases sI0 with
  | true =>
    cases sS with
    | true =>
      cases ok <;> exact qDj _ _ _ _ _ _ _ _ _ _ _ _ _ _ _ _ _ _ _ _ _ _ _ _ _ _ _ ⟨cA, cB, cC, cI0, rfl, cS, rfl, trivial⟩
    | false =>
      cases hk2 : p.kind == 2 with
      | true =>
        cases ok with
        | true =>
          cases sI1 with
          | true =>
            cases sG1 with
            | true =>
              exact qDk _ _ _ _ _ _ _ _ _ _ _ _ _ _ _ _ _ _ _ _ _ _ _ _ _ _ _ _ _ ⟨cA, cB, cC, cI0, rfl, cS, rfl, hk2, rfl, (cI1 hk2 rfl), rfl, m1, m2, m3, cG1, rfl, trivial⟩
            | false =>
              cases hk1 : p.kind == 1 with
              | true =>
                cases sG2 with
                | true =>
                  exact qDl _ _ _ _ _ _ _ _ _ _ _ _ _ _ _ _ _ _ _ _ _ _ _ _ _ _ _ _ _ _ _ _ _ ⟨cA, cB, cC, cI0, rfl, cS, rfl, hk2, rfl, (cI1 hk2 rfl), rfl, m1, m2, m3, cG1, rfl, hk1, rfl, cI0, rfl, cW, cP, n1, n2, n3, cG2, rfl, trivial⟩
                | false =>
                  exact qDm _ _ _ _ _ _ _ _ _ _ _ _ _ _ _ _ _ _ _ _ _ _ _ _ _ _ _ _ _ _ _ _ _ ⟨cA, cB, cC, cI0, rfl, cS, rfl, hk2, rfl, (cI1 hk2 rfl), rfl, m1, m2, m3, cG1, rfl, hk1, rfl, cI0, rfl, cW, cP, n1, n2, n3, cG2, rfl, trivial⟩
              | false =>
                exact qDn _ _ _ _ _ _ _ _ _ _ _ _ _ _ _ _ _ _ _ _ _ _ _ _ _ _ _ _ _ ⟨cA, cB, cC, cI0, rfl, cS, rfl, hk2, rfl, (cI1 hk2 rfl), rfl, m1, m2, m3, cG1, rfl, hk1, trivial⟩
          | false =>
            cases hk1 : p.kind == 1 with
            | true =>
              cases sG2 with
              | true =>
                exact qDo _ _ _ _ _ _ _ _ _ _ _ _ _ _ _ _ _ _ _ _ _ _ _ _ _ _ _ _ _ _ _ _ ⟨cA, cB, cC, cI0, rfl, cS, rfl, hk2, rfl, (cI1 hk2 rfl), rfl, hk1, rfl, cI0, rfl, cW, cP, n1, n2, n3, cG2, rfl, trivial⟩
              | false =>
                exact qDp _ _ _ _ _ _ _ _ _ _ _ _ _ _ _ _ _ _ _ _ _ _ _ _ _ _ _ _ _ _ _ _ ⟨cA, cB, cC, cI0, rfl, cS, rfl, hk2, rfl, (cI1 hk2 rfl), rfl, hk1, rfl, cI0, rfl, cW, cP, n1, n2, n3, cG2, rfl, trivial⟩
            | false =>
              exact qDq _ _ _ _ _ _ _ _ _ _ _ _ _ _ _ _ _ _ _ _ _ _ _ _ _ _ _ _ ⟨cA, cB, cC, cI0, rfl, cS, rfl, hk2, rfl, (cI1 hk2 rfl), rfl, hk1, trivial⟩
        | false =>
          cases hk1 : p.kind == 1 with
          | true =>
            exact qDr _ _ _ _ _ _ _ _ _ _ _ _ _ _ _ _ _ _ _ _ _ _ _ _ _ _ _ ⟨cA, cB, cC, cI0, rfl, cS, rfl, hk2, rfl, hk1, rfl, trivial⟩
          | false =>
            exact qDs _ _ _ _ _ _ _ _ _ _ _ _ _ _ _ _ _ _ _ _ _ _ _ _ _ _ _ ⟨cA, cB, cC, cI0, rfl, cS, rfl, hk2, rfl, hk1, trivial⟩
      | false =>
        cases hk1 : p.kind == 1 with
        | true =>
          cases ok with
          | true =>
            cases sG2 with
            | true =>
              exact qDt _ _ _ _ _ _ _ _ _ _ _ _ _ _ _ _ _ _ _ _ _ _ _ _ _ _ _ _ _ _ _ ⟨cA, cB, cC, cI0, rfl, cS, rfl, hk2, hk1, rfl, cI0, rfl, cW, cP, n1, n2, n3, cG2, rfl, trivial⟩
            | false =>
              exact qDu _ _ _ _ _ _ _ _ _ _ _ _ _ _ _ _ _ _ _ _ _ _ _ _ _ _ _ _ _ _ _ ⟨cA, cB, cC, cI0, rfl, cS, rfl, hk2, hk1, rfl, cI0, rfl, cW, cP, n1, n2, n3, cG2, rfl, trivial⟩
          | false =>
            exact qDv _ _ _ _ _ _ _ _ _ _ _ _ _ _ _ _ _ _ _ _ _ _ _ _ _ _ _ ⟨cA, cB, cC, cI0, rfl, cS, rfl, hk2, hk1, rfl, trivial⟩
        | false =>
          cases ok <;> exact qDw _ _ _ _ _ _ _ _ _ _ _ _ _ _ _ _ _ _ _ _ _ _ _ _ _ _ _ ⟨cA, cB, cC, cI0, rfl, cS, rfl, hk2, hk1, trivial⟩
  | false =>
    cases hk2 : p.kind == 2 with
    | true =>
      cases ok with
      | true =>
        cases sI1 with
        | true =>
          cases sG1 with
          | true =>
            cases sS <;> exact qDx _ _ _ _ _ _ _ _ _ _ _ _ _ _ _ _ _ _ _ _ _ _ _ _ _ _ _ _ ⟨cA, cB, cC, cI0, rfl, hk2, rfl, (cI1 hk2 rfl), rfl, m1, m2, m3, cG1, rfl, trivial⟩
          | false =>
            cases hk1 : p.kind == 1 with
            | true =>
              cases sS <;> exact qDy _ _ _ _ _ _ _ _ _ _ _ _ _ _ _ _ _ _ _ _ _ _ _ _ _ _ _ _ _ ⟨cA, cB, cC, cI0, rfl, hk2, rfl, (cI1 hk2 rfl), rfl, m1, m2, m3, cG1, rfl, hk1, rfl, cI0, rfl, trivial⟩
            | false =>
              cases sS <;> exact qDz _ _ _ _ _ _ _ _ _ _ _ _ _ _ _ _ _ _ _ _ _ _ _ _ _ _ _ _ ⟨cA, cB, cC, cI0, rfl, hk2, rfl, (cI1 hk2 rfl), rfl, m1, m2, m3, cG1, rfl, hk1, trivial⟩
        | false =>
          cases hk1 : p.kind == 1 with
          | true =>
            cases sS <;> exact qDA _ _ _ _ _ _ _ _ _ _ _ _ _ _ _ _ _ _ _ _ _ _ _ _ _ _ _ _ ⟨cA, cB, cC, cI0, rfl, hk2, rfl, (cI1 hk2 rfl), rfl, hk1, rfl, cI0, rfl, trivial⟩
          | false =>
            cases sS <;> exact qDB _ _ _ _ _ _ _ _ _ _ _ _ _ _ _ _ _ _ _ _ _ _ _ _ _ _ _ ⟨cA, cB, cC, cI0, rfl, hk2, rfl, (cI1 hk2 rfl), rfl, hk1, trivial⟩
      | false =>
        cases hk1 : p.kind == 1 with
        | true =>
          cases sS <;> exact qDC _ _ _ _ _ _ _ _ _ _ _ _ _ _ _ _ _ _ _ _ _ _ _ _ _ _ ⟨cA, cB, cC, cI0, rfl, hk2, rfl, hk1, rfl, trivial⟩
        | false =>
          cases sS <;> exact qDD _ _ _ _ _ _ _ _ _ _ _ _ _ _ _ _ _ _ _ _ _ _ _ _ _ _ ⟨cA, cB, cC, cI0, rfl, hk2, rfl, hk1, trivial⟩
    | false =>
      cases hk1 : p.kind == 1 with
      | true =>
        cases ok with
        | true =>
          cases sS <;> exact qDE _ _ _ _ _ _ _ _ _ _ _ _ _ _ _ _ _ _ _ _ _ _ _ _ _ _ _ ⟨cA, cB, cC, cI0, rfl, hk2, hk1, rfl, cI0, rfl, trivial⟩
        | false =>
          cases sS <;> exact qDF _ _ _ _ _ _ _ _ _ _ _ _ _ _ _ _ _ _ _ _ _ _ _ _ _ _ ⟨cA, cB, cC, cI0, rfl, hk2, hk1, rfl, trivial⟩
      | false =>
        cases sS <;> cases ok <;> exact qDG _ _ _ _ _ _ _ _ _ _ _ _ _ _ _ _ _ _ _ _ _ _ _ _ _ _ ⟨cA, cB, cC, cI0, rfl, hk2, hk1, trivial⟩
def qm9 (a b : Cluster) (p : Pick) : Int :=
  qjQ (decide (qaN a = qaN b)) (qcX a b 0 0) (qaC a p).2 (p.kind == 2) (qcX a b p.a 1) (qem (qaN a ++ [(qaC a p).1]) (qaN b)) (p.kind == 1) (qem (qbu (qaN a) (qaC a p).1 ++ qa0 a p) (qaN b))
theorem qEk {c : Cluster} {p : Pick} (hk : (p.kind == 2) = true) (h : (qaC c p).2 = true) : ∀ (i : Nat) (x : Worker), c.workers[i]? = some x → (i : Int) = p.a → 1 ≤ x.inputs.length := by
  intro i x hx hi
  have hk : p.kind = 2 := by simpa using hk
  unfold qaC qbD at h
  rw [← hi] at h
  simp only [lt0, if_true, Int.toNat_natCast, hx, hk] at h
  cases hx2 : x.inputs with
  | nil => rw [hx2] at h; cases h
  | cons r rs => simp
theorem qna {c : Cluster} (h : c.sz ≤ 1048576) : (qaN c).length + 1 ≤ 1048576 := by
  rw [ql6]
  by_cases hz : c.workers.length = 0 ∧ c.links.length = 0
  · have e1 := List.eq_nil_of_length_eq_zero hz.1
    have e2 := List.eq_nil_of_length_eq_zero hz.2
    simp [qbZ, e1, e2]
  · have h1 := qfr heldW Worker.sz (fun w => by simp only [Worker.sz, heldW, List.length_append]; omega) c.workers
    have h2 := qfr Link.queue Link.sz (fun l => by simp only [Link.sz]; omega) c.links
    simp only [Cluster.sz, szS] at h
    simp only [qbZ, List.length_append]
    omega
theorem qEl {xs : List Record} {r : Record} (h : r ∈ xs) : (qbu xs r).length + 1 = xs.length := by
  unfold qbu
  cases e : xs.findIdx? (fun a => decide (a = r)) with
  | none =>
    rw [List.findIdx?_eq_none_iff] at e
    have := e r h
    simp at this
  | some i =>
    rw [List.findIdx?_eq_some_iff_getElem] at e
    have := e.1
    simp
    omega
theorem qEm {c : Cluster} {p : Pick} (hk : ¬ (p.kind == 2) = true) (h : (qaC c p).2 = true) : (qaC c p).1 ∈ qaN c := by
  have hk2 : ¬ p.kind = 2 := by simpa using hk
  unfold qaC at h ⊢
  cases hw : qbD c p.a with
  | none => rw [hw] at h; cases h
  | some w =>
    rw [hw] at h
    simp only [if_neg hk2] at h ⊢
    by_cases hk1 : p.kind = 1
    · simp only [if_pos hk1] at h ⊢
      cases hq : w.queue with
      | nil => rw [hq] at h; cases h
      | cons r rs =>
        have hm : r ∈ qbZ c := List.mem_append_left _ (List.mem_flatMap.2 ⟨w, qjP hw, by simp [heldW, hq]⟩)
        exact ((show (qaN c).Perm (qbZ c) from (qji recO (qbZ c) [] List.Pairwise.nil).2).mem_iff).2 hm
    · simp only [if_neg hk1] at h; cases h
theorem qnb (c : Cluster) (p : Pick) : (qbu (qaN c) (qaC c p).1).length + (qa0 c p).length ≤ (qaN c).length + 1 := by
  have h1 := qjn (qaN c) (qaC c p).1
  by_cases hc : (qaC c p).2 = true
  · by_cases hk : (p.kind == 2) = true
    · have : (qa0 c p).length = 1 := by unfold qa0; rw [if_pos hc, if_pos hk]; rfl
      omega
    · have h2 := qEl (qEm hk hc)
      have h3 := qm4 c p
      omega
  · have : (qa0 c p).length = 0 := by unfold qa0; rw [if_neg hc]; rfl
    omega
theorem qEn (a b : Cluster) (p : Pick) (ha : a.sz ≤ 1048576) (hb : b.sz ≤ 1048576) : Ret prog 24 [.agg a.e, .agg b.e, .agg p.e] [.one (I (qm9 a b p))] := by
  have l1 := qna ha
  have l2 := ql7 hb
  have l3 := qjn (qaN a) (qaC a p).1
  have l4 := qnb a p
  have g1 := qm7 (qaN a ++ [(qaC a p).1]) (qaN b) (by simp only [List.length_append, List.length_singleton]; omega) l2
  have g2 := qm7 (qbu (qaN a) (qaC a p).1 ++ qa0 a p) (qaN b) (by simp only [List.length_append, List.length_singleton]; omega) l2
  rw [List.map_append] at g1 g2
  exact qEi a b p (qaC a p).1 (qaN a) (qaN b) (qbu (qaN a) (qaC a p).1) (qa0 a p) _ _ _ _ _ _ (ql8 a ha) (ql8 b hb) (qjN _ _ (by omega)) (qm5 a b 0 0 ha (by omega))
    (qmc a p ha) (fun _ _ => qm5 a b p.a 1 ha (by omega)) (by simp only [List.length_map, List.length_singleton]; omega) (by simp only [List.length_map, List.length_singleton]; omega) (qat (qaC a p).1.flat) g1 (qwh _ _ (by omega)) (qm2 a p ha) (by simp only [List.length_map, List.length_singleton]; omega) (by simp only [List.length_map, List.length_singleton]; omega) (qaf _ Record.flat _) g2
theorem qEo (a b : Cluster) (p : Pick) (ha : a.sz ≤ 1048576) (hb : b.sz ≤ 1048576) : Ret prog 25 [.agg a.e, .agg b.e, .agg p.e] [.one (I (qm9 a b p))] := by
  have l1 := qna ha
  have l2 := ql7 hb
  have l3 := qjn (qaN a) (qaC a p).1
  have l4 := qnb a p
  have g1 := qm8 (qaN a ++ [(qaC a p).1]) (qaN b) (by simp only [List.length_append, List.length_singleton]; omega) l2
  have g2 := qm8 (qbu (qaN a) (qaC a p).1 ++ qa0 a p) (qaN b) (by simp only [List.length_append, List.length_singleton]; omega) l2
  rw [List.map_append] at g1 g2
  have i0 := qm6 a b (-1) 0 ha (fun _ _ _ _ => Nat.zero_le _)
  rw [qEh a b (-1) 0] at i0
  exact qEj a b p (qaC a p).1 (qaN a) (qaN b) (qbu (qaN a) (qaC a p).1) (qa0 a p) _ _ _ _ _ _ (ql9 a ha) (ql9 b hb) (qjO _ _ (by omega)) i0
    (qmd a p ha) (fun h1 h2 => qm6 a b p.a 1 ha (qEk h1 h2)) (by simp only [List.length_map, List.length_singleton]; omega) (by simp only [List.length_map, List.length_singleton]; omega) (qat (qaC a p).1.flat) g1 (qwj _ _ (by omega)) (qm3 a p ha) (by simp only [List.length_map, List.length_singleton]; omega) (by simp only [List.length_map, List.length_singleton]; omega) (qaf _ Record.flat _) g2
end Go.Proofs.YtialmplmfcahpaaGreat
