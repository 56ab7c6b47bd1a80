/- WithoutOne, Consumed, AllPicks: what program and reference compute. -/
import Derived.Test.YtialmplmfcahpaaGreatP11
import Derived.Test.YtialmplmfcahpaaGreatQ1
namespace Go.Proofs.YtialmplmfcahpaaGreat
open Go.Sx Go.RowKit
set_option linter.unusedVariables false
set_option linter.unusedSimpArgs false
def qbD (c : Cluster) (a : Int) : Option Worker := if 0 ≤ a then c.workers[a.toNat]? else none
def qaC (c : Cluster) (p : Pick) : Record × Bool :=
  match qbD c p.a with
  | none => (⟨0, ⟨0, 0⟩, 0, 0⟩, false)
  | some w => match (if p.kind = 2 then w.inputs else if p.kind = 1 then w.queue else []) with
    | [] => (⟨0, ⟨0, 0⟩, 0, 0⟩, false)
    | r :: _ => (r, true)
theorem Cluster.workers_le {c : Cluster} (h : c.sz ≤ 1048576) : c.workers.length ≤ 1048576 := by simp only [Cluster.sz, szS] at h; omega
theorem qgC {c : Cluster} {a : Int} {w : Worker} (h : qbD c a = some w) : 0 ≤ a ∧ a < (↑(c.workers.map Worker.e).length : Int) ∧ (c.workers.map Worker.e)[a.toNat]? = some w.e ∧ inR a 0 (↑(c.workers.map Worker.e).length - 1) = true := by
  unfold qbD at h
  split at h
  · have := (List.getElem?_eq_some_iff.1 h).1
    refine ⟨‹_›, by simp; omega, by simp [h], ?_⟩
    simp only [inR, List.length_map, decide_eq_true_eq]; omega
  · cases h
theorem qmb {c : Cluster} {a : Int} (h : qbD c a = none) : inR a 0 (↑(c.workers.map Worker.e).length - 1) = false := by
  unfold qbD at h
  simp only [inR, List.length_map, decide_eq_false_iff_not]
  split at h
  · rw [List.getElem?_eq_none_iff] at h; omega
  · omega
theorem qmc (c : Cluster) (p : Pick) (hc : c.sz ≤ 1048576) : Ret Tryz.prog 59 [.agg c.e, .agg p.e] [.agg (qaC c p).1.e, .one (B (qaC c p).2)] := by
  have hx := Cluster.workers_le hc
  have up : inInt .i64 ((↑(c.workers.map Worker.e).length : Int) - 1) := ⟨by simp; omega, by simp; omega⟩
  unfold qaC
  cases h : qbD c p.a with
  | none => exact qs7 _ _ _ _ _ _ _ _ _ _ _ ⟨up, qgq _ _ _ _ (qmb h), rfl, trivial⟩
  | some w =>
    obtain ⟨h1, h2, h3, h4⟩ := qgC h
    have b := qgq _ _ _ _ h4
    by_cases k2 : p.kind = 2
    · simp only [k2, if_true]
      have e2 : (p.kind == 2) = true := by simp [k2]
      have e1 : (p.kind == 1) = false := by simp [k2]
      cases hi : w.inputs with
      | nil =>
        exact qs9 _ _ _ _ _ _ _ _ _ _ _ _ _ _ _ _ _ _ _ ⟨up, b, rfl, h1, h2, h3, e2, by simp [hi], e1, trivial⟩
      | cons r rs =>
        exact qs8 _ _ _ _ _ _ _ _ _ _ _ _ _ _ _ _ _ _ _ _ _ _ _ _ ⟨up, b, rfl, h1, h2, h3, e2, by first | (simp [hi]; done) | (simp [hi]; omega), by omega, by first | (simp [hi]; done) | (simp [hi]; omega), by simp [hi]; rfl, trivial⟩
    · have e2 : (p.kind == 2) = false := by simp [k2]
      simp only [if_neg k2]
      by_cases k1 : p.kind = 1
      · simp only [k1, if_true]
        have e1 : (p.kind == 1) = true := by simp [k1]
        cases hi : w.queue with
        | nil => exact qtb _ _ _ _ _ _ _ _ _ _ _ _ _ _ _ _ _ _ _ ⟨up, b, rfl, h1, h2, h3, e2, e1, by simp [hi], trivial⟩
        | cons r rs => exact qta _ _ _ _ _ _ _ _ _ _ _ _ _ _ _ _ _ _ _ _ _ _ _ _ ⟨up, b, rfl, h1, h2, h3, e2, e1, by first | (simp [hi]; done) | (simp [hi]; omega), by omega, by first | (simp [hi]; done) | (simp [hi]; omega), by simp [hi]; rfl, trivial⟩
      · simp only [if_neg k1]
        exact qtc _ _ _ _ _ _ _ _ _ _ _ _ _ _ _ _ _ _ _ ⟨up, b, rfl, h1, h2, h3, e2, by simp [k1], trivial⟩
theorem qmd (c : Cluster) (p : Pick) (hc : c.sz ≤ 1048576) : Ret Tryz.prog 66 [.agg c.e, .agg p.e] [.agg (qaC c p).1.e, .one (B (qaC c p).2)] := by
  have hx := Cluster.workers_le hc
  have up : inInt .i64 ((↑(c.workers.map Worker.e).length : Int) - 1) := ⟨by simp; omega, by simp; omega⟩
  unfold qaC
  cases h : qbD c p.a with
  | none => exact qtd _ _ _ _ _ _ _ _ _ _ _ ⟨up, qgr _ _ _ _ (qmb h), rfl, trivial⟩
  | some w =>
    obtain ⟨h1, h2, h3, h4⟩ := qgC h
    have b := qgr _ _ _ _ h4
    by_cases k2 : p.kind = 2
    · simp only [k2, if_true]
      have e2 : (p.kind == 2) = true := by simp [k2]
      cases hi : w.inputs with
      | nil => exact qte _ _ _ _ _ _ _ _ _ _ _ _ _ _ _ _ _ _ _ ⟨up, b, rfl, e2, h1, h2, h3, by simp [hi], trivial⟩
      | cons r rs => exact qtf _ _ _ _ _ _ _ _ _ _ _ _ _ _ _ _ _ _ _ _ _ _ _ _ ⟨up, b, rfl, e2, h1, h2, h3, by first | (simp [hi]; done) | (simp [hi]; omega), by omega, by first | (simp [hi]; done) | (simp [hi]; omega), by simp [hi]; rfl, trivial⟩
    · have e2 : (p.kind == 2) = false := by simp [k2]
      simp only [if_neg k2]
      by_cases k1 : p.kind = 1
      · simp only [k1, if_true]
        have e1 : (p.kind == 1) = true := by simp [k1]
        cases hi : w.queue with
        | nil => exact qtg _ _ _ _ _ _ _ _ _ _ _ _ _ _ _ _ _ _ _ ⟨up, b, rfl, e2, e1, h1, h2, h3, by simp [hi], trivial⟩
        | cons r rs => exact qth _ _ _ _ _ _ _ _ _ _ _ _ _ _ _ _ _ _ _ _ _ _ _ _ ⟨up, b, rfl, e2, e1, h1, h2, h3, by first | (simp [hi]; done) | (simp [hi]; omega), by omega, by first | (simp [hi]; done) | (simp [hi]; omega), by simp [hi]; rfl, trivial⟩
      · simp only [if_neg k1]
        exact qti _ _ _ _ _ _ _ _ _ _ _ ⟨up, b, rfl, e2, by simp [k1], rfl, trivial⟩
end Go.Proofs.YtialmplmfcahpaaGreat
