/- WithoutOne, Consumed, AllPicks: what program and reference compute. -/
import Derived.Test.YtialmplmfcahpaaGreatP11
import Derived.Test.YtialmplmfcahpaaGreatQ1
set_option linter.unusedVariables false
set_option linter.unusedSimpArgs false
namespace Go.Proofs.YtialmplmfcahpaaGreat
open Go.Sx Go.RowKit Go.Proofs.Tryz
def qbu (xs : List Record) (r : Record) : List Record :=
  match xs.findIdx? (fun a => decide (a = r)) with
  | some i => xs.take i ++ xs.drop (i + 1)
  | none => xs
theorem qjn (xs : List Record) (r : Record) : (qbu xs r).length ≤ xs.length := by
  unfold qbu
  split
  · simp; omega
  · exact Nat.le_refl _
theorem qwh (xs : List Record) (r : Record) (hl : xs.length ≤ 1048576) : Ret prog 83 [.one (.sl 5 (xs.map Record.e)), .agg r.e] [.one (.sl 5 ((qbu xs r).map Record.e))] := by
  have l := qbB (P := prog) (c := (qaa f83 0)) xs (fun a => decide (a = r)) (fun i => qdK (xs.map Record.e) r.op r.stamp.epoch r.stamp.turn r.key r.val i) (X := fun i _ => qfi ((xs.take i ++ xs.drop (i + 1)).map Record.e)) qaD (qah 0)
    (fun i a ha h => qs0 _ _ _ _ _ _ _ _ _ _ _ _ ⟨lt1 (lt_of ha), lt0, lt2 (lt_of ha), qae Record.e ha, (recEq a r).trans h, up1 (lt_of ha) hl, trivial⟩)
    (fun i a ha h => by
      have hi := lt_of ha
      refine tr_to qfi (qsZ _ _ _ _ _ _ _ _ _ _ _ _ ⟨lt1 hi, lt0, lt2 hi, qae Record.e ha, (recEq a r).trans h, by simp, by simp, by simp; omega, by simp; omega, by simp; omega, ?_, up1 hi hl, by simp; omega, by simp; omega, by simp, by simp; omega, by simp; omega, ?_, trivial⟩) ?_
      · simp only [Option.getD_some, Int.toNat_natCast, Nat.sub_zero, List.drop_zero, ← List.map_take]
        exact qaf _ Record.flat _
      · simp only [Option.getD_some, ← List.map_take, ← List.map_drop]
        exact qaf _ Record.flat _
      · have e1 : ((i : Int) + 1).toNat = i + 1 := by omega
        simp only [Option.getD_some, Int.toNat_natCast, Nat.sub_zero, List.drop_zero, List.nil_append, e1, ← List.map_take, ← List.map_drop, ← List.map_append]
        congr 2
        rw [List.take_of_length_le (by simp)])
    (qs1 _ _ _ _ _ _ _ ⟨ge1, trivial⟩)
  unfold qbu
  rcases l with ⟨_, h1, _, h2⟩ | ⟨i, a, _, _, _, h1, _, h2⟩
  · simp only [h1]
    exact qs3 _ _ _ _ _ _ ⟨h2, by simp; omega, by simp; omega, qaf _ Record.flat _, trivial⟩
  · simp only [h1]
    exact qs2 _ _ _ _ _ _ _ ⟨h2, trivial⟩
def idxR (xs : List Record) (r : Record) : Int := match xs.findIdx? (fun a => decide (a = r)) with | some i => i | none => -1
theorem qwi (xs : List Record) (r : Record) (hl : xs.length ≤ 1048576) : Ret prog 171 [.one (.sl 5 (xs.map Record.e)), .agg r.e] [.one (I (idxR xs r))] := by
  have l := qbB (P := prog) (c := (qaa f171 0)) xs (fun a => decide (a = r)) (fun i => qdJ (xs.map Record.e) r.op r.stamp.epoch r.stamp.turn r.key r.val i) (X := fun i _ => qgm i) qaD (qah 0)
    (fun i a ha h => qsV _ _ _ _ _ _ _ _ _ _ _ _ ⟨lt1 (lt_of ha), lt0, lt2 (lt_of ha), qae Record.e ha, (qlF a r).trans h, up1 (lt_of ha) hl, trivial⟩)
    (fun i a ha h => qsU _ _ _ _ _ _ _ _ _ _ _ _ ⟨lt1 (lt_of ha), lt0, lt2 (lt_of ha), qae Record.e ha, (qlF a r).trans h, trivial⟩)
    (qsW _ _ _ _ _ _ _ ⟨ge1, trivial⟩)
  unfold idxR
  rcases l with ⟨_, h1, _, h2⟩ | ⟨i, a, _, _, _, h1, _, h2⟩
  · simp only [h1]; exact qsY _ _ _ _ _ _ ⟨h2, trivial⟩
  · simp only [h1]; exact qsX _ _ _ _ _ _ _ ⟨h2, trivial⟩
theorem qwj (xs : List Record) (r : Record) (hl : xs.length ≤ 1048576) : Ret prog 88 [.one (.sl 5 (xs.map Record.e)), .agg r.e] [.one (.sl 5 ((qbu xs r).map Record.e))] := by
  have c := ql5 xs hl
  have x := qwi xs r hl
  unfold qbu
  unfold idxR at x
  cases h : xs.findIdx? (fun a => decide (a = r)) with
  | none =>
    simp only [h] at x ⊢
    exact qs5 _ _ _ _ _ _ _ _ ⟨c, x, dF (by omega), trivial⟩
  | some i =>
    simp only [h] at x ⊢
    have hi : i < xs.length := by
      rw [List.findIdx?_eq_some_iff_getElem] at h
      exact h.1
    exact qs4 _ _ _ _ _ _ _ _ _ ⟨c, x, dT (by omega), ⟨by omega, by omega⟩, qwg xs i (i + 1) (by omega) (by omega), trivial⟩
def qbD (c : Cluster) (a : Int) : Option Worker := if 0 ≤ a then c.workers[a.toNat]? else none
def qaC (c : Cluster) (p : Pick) : Record × Bool :=
  match qbD c p.a with
  | none => (⟨0, ⟨0, 0⟩, 0, 0⟩, false)
  | some w => match (if p.kind = 2 then w.inputs else if p.kind = 1 then w.queue else []) with
    | [] => (⟨0, ⟨0, 0⟩, 0, 0⟩, false)
    | r :: _ => (r, true)
theorem Cluster.workers_le {c : Cluster} (h : c.sz ≤ 1048576) : c.workers.length ≤ 1048576 := by simp only [Cluster.sz, szS] at h; omega
theorem qgC {c : Cluster} {a : Int} {w : Worker} (h : qbD c a = some w) : 0 ≤ a ∧ a < (↑(c.workers.map Worker.e).length : Int) ∧ (c.workers.map Worker.e)[a.toNat]? = some w.e ∧ inR a 0 (↑(c.workers.map Worker.e).length - 1) = true := by
  unfold qbD at h
  split at h
  · have := (List.getElem?_eq_some_iff.1 h).1
    refine ⟨‹_›, by simp; omega, by simp [h], ?_⟩
    simp only [inR, List.length_map, decide_eq_true_eq]; omega
  · cases h
theorem qmb {c : Cluster} {a : Int} (h : qbD c a = none) : inR a 0 (↑(c.workers.map Worker.e).length - 1) = false := by
  unfold qbD at h
  simp only [inR, List.length_map, decide_eq_false_iff_not]
  split at h
  · rw [List.getElem?_eq_none_iff] at h; omega
  · omega
theorem qmc (c : Cluster) (p : Pick) (hc : c.sz ≤ 1048576) : Ret prog 59 [.agg c.e, .agg p.e] [.agg (qaC c p).1.e, .one (B (qaC c p).2)] := by
  have hx := Cluster.workers_le hc
  have up : inInt .i64 ((↑(c.workers.map Worker.e).length : Int) - 1) := ⟨by simp; omega, by simp; omega⟩
  unfold qaC
  cases h : qbD c p.a with
  | none => exact qs7 _ _ _ _ _ _ _ _ _ _ _ ⟨up, qgq _ _ _ _ (qmb h), rfl, trivial⟩
  | some w =>
    obtain ⟨h1, h2, h3, h4⟩ := qgC h
    have b := qgq _ _ _ _ h4
    by_cases k2 : p.kind = 2
    · simp only [k2, if_true]
      have e2 : (p.kind == 2) = true := by simp [k2]
      have e1 : (p.kind == 1) = false := by simp [k2]
      cases hi : w.inputs with
      | nil =>
        exact qs9 _ _ _ _ _ _ _ _ _ _ _ _ _ _ _ _ _ _ _ ⟨up, b, rfl, h1, h2, h3, e2, by simp [hi], e1, trivial⟩
      | cons r rs =>
        exact qs8 _ _ _ _ _ _ _ _ _ _ _ _ _ _ _ _ _ _ _ _ _ _ _ _ ⟨up, b, rfl, h1, h2, h3, e2, by first | (simp [hi]; done) | (simp [hi]; omega), by omega, by first | (simp [hi]; done) | (simp [hi]; omega), by simp [hi]; rfl, trivial⟩
    · have e2 : (p.kind == 2) = false := by simp [k2]
      simp only [if_neg k2]
      by_cases k1 : p.kind = 1
      · simp only [k1, if_true]
        have e1 : (p.kind == 1) = true := by simp [k1]
        cases hi : w.queue with
        | nil => exact qtb _ _ _ _ _ _ _ _ _ _ _ _ _ _ _ _ _ _ _ ⟨up, b, rfl, h1, h2, h3, e2, e1, by simp [hi], trivial⟩
        | cons r rs => exact qta _ _ _ _ _ _ _ _ _ _ _ _ _ _ _ _ _ _ _ _ _ _ _ _ ⟨up, b, rfl, h1, h2, h3, e2, e1, by first | (simp [hi]; done) | (simp [hi]; omega), by omega, by first | (simp [hi]; done) | (simp [hi]; omega), by simp [hi]; rfl, trivial⟩
      · simp only [if_neg k1]
        exact qtc _ _ _ _ _ _ _ _ _ _ _ _ _ _ _ _ _ _ _ ⟨up, b, rfl, h1, h2, h3, e2, by simp [k1], trivial⟩
theorem qmd (c : Cluster) (p : Pick) (hc : c.sz ≤ 1048576) : Ret prog 66 [.agg c.e, .agg p.e] [.agg (qaC c p).1.e, .one (B (qaC c p).2)] := by
  have hx := Cluster.workers_le hc
  have up : inInt .i64 ((↑(c.workers.map Worker.e).length : Int) - 1) := ⟨by simp; omega, by simp; omega⟩
  unfold qaC
  cases h : qbD c p.a with
  | none => exact qtd _ _ _ _ _ _ _ _ _ _ _ ⟨up, qgr _ _ _ _ (qmb h), rfl, trivial⟩
  | some w =>
    obtain ⟨h1, h2, h3, h4⟩ := qgC h
    have b := qgr _ _ _ _ h4
    by_cases k2 : p.kind = 2
    · simp only [k2, if_true]
      have e2 : (p.kind == 2) = true := by simp [k2]
      cases hi : w.inputs with
      | nil => exact qte _ _ _ _ _ _ _ _ _ _ _ _ _ _ _ _ _ _ _ ⟨up, b, rfl, e2, h1, h2, h3, by simp [hi], trivial⟩
      | cons r rs => exact qtf _ _ _ _ _ _ _ _ _ _ _ _ _ _ _ _ _ _ _ _ _ _ _ _ ⟨up, b, rfl, e2, h1, h2, h3, by first | (simp [hi]; done) | (simp [hi]; omega), by omega, by first | (simp [hi]; done) | (simp [hi]; omega), by simp [hi]; rfl, trivial⟩
    · have e2 : (p.kind == 2) = false := by simp [k2]
      simp only [if_neg k2]
      by_cases k1 : p.kind = 1
      · simp only [k1, if_true]
        have e1 : (p.kind == 1) = true := by simp [k1]
        cases hi : w.queue with
        | nil => exact qtg _ _ _ _ _ _ _ _ _ _ _ _ _ _ _ _ _ _ _ ⟨up, b, rfl, e2, e1, h1, h2, h3, by simp [hi], trivial⟩
        | cons r rs => exact qth _ _ _ _ _ _ _ _ _ _ _ _ _ _ _ _ _ _ _ _ _ _ _ _ ⟨up, b, rfl, e2, e1, h1, h2, h3, by first | (simp [hi]; done) | (simp [hi]; omega), by omega, by first | (simp [hi]; done) | (simp [hi]; omega), by simp [hi]; rfl, trivial⟩
      · simp only [if_neg k1]
        exact qti _ _ _ _ _ _ _ _ _ _ _ ⟨up, b, rfl, e2, by simp [k1], rfl, trivial⟩
end Go.Proofs.YtialmplmfcahpaaGreat
