/- ClusterOk, SafeCluster: what program and reference compute; the law SafeCluster answers true. -/
import Derived.Test.YtdanpadojemjeaaGreatP11
import Derived.Test.YtdanpadojemjeaaGreatP16
set_option linter.unusedVariables false
set_option linter.unusedSimpArgs false
namespace Go.Proofs.YtdanpadojemjeaaGreat
open Go.Sx Go.RowKit
def qi3 (p : Cell × Cell) : Bool := decide (qeP p.1 p.2 ≥ 0)
def qcF (xs : List Cell) : Bool := !((xs.zip (xs.drop 1)).any qi3)
theorem qgQ {xs : List Cell} {i : Nat} {p : Cell × Cell} (h : (xs.zip (xs.drop 1))[i]? = some p) : xs[i]? = some p.1 ∧ xs[i + 1]? = some p.2 := by
  rw [List.getElem?_zip_eq_some] at h
  obtain ⟨h1, h2⟩ := h
  rw [List.getElem?_drop, Nat.add_comm] at h2
  exact ⟨h1, h2⟩
theorem qBD (xs : List Cell) (hl : xs.length ≤ 8388608) : Rt 227 [.one (.sl 4 (xs.map Cell.e))] [.one (B (qcF xs))] := by
  have e0 : ∀ i : Nat, (((i : Int) + 1) - 1).toNat = i := fun i => by omega
  have e1 : ∀ i : Nat, (((i : Int) + 1)).toNat = i + 1 := fun i => by omega
  have hz : (xs.zip (xs.drop 1)).length = xs.length - 1 := by simp
  have l := qaV (P := Tryz.prog) (c := (qaa Tryz.f227 0)) (xs.zip (xs.drop 1)) qi3 (fun i => qc9 (xs.map Cell.e) ((i : Int) + 1)) (X := fun _ _ => qiJ false) qao (qaf 0)
    (fun i a ha h => by
      obtain ⟨h1, h2⟩ := qgQ ha
      have hi := lt_of h2
      refine tr_to (qc9 (xs.map Cell.e)) (qvu ⟨dT (by simp only [List.length_map]; omega), ⟨by omega, by omega⟩, by omega, by simp only [List.length_map]; omega, by rw [e0, List.getElem?_map, h1]; rfl, by omega, by simp only [List.length_map]; omega, by rw [e1, List.getElem?_map, h2]; rfl, qlU a.1 a.2, h, ⟨by omega, by omega⟩, trivial⟩) (by omega))
    (fun i a ha h => by
      obtain ⟨h1, h2⟩ := qgQ ha
      have hi := lt_of h2
      exact qvt ⟨dT (by simp only [List.length_map]; omega), ⟨by omega, by omega⟩, by omega, by simp only [List.length_map]; omega, by rw [e0, List.getElem?_map, h1]; rfl, by omega, by simp only [List.length_map]; omega, by rw [e1, List.getElem?_map, h2]; rfl, qlU a.1 a.2, h, trivial⟩)
    (qvv ⟨dF (by rw [hz]; simp only [List.length_map]; omega), trivial⟩)
  unfold qcF
  rcases l with ⟨_, _, h1, h2⟩ | ⟨i, a, _, _, _, _, h1, h2⟩
  · rw [h1]; exact qvx ⟨h2, trivial⟩
  · rw [h1]; exact qvw ⟨h2, trivial⟩
theorem qmt (xs : List Cell) (r : Bool) (h : qcF xs = r) (hl : xs.length ≤ 8388608) : Rt 227 [.one (.sl 4 (xs.map Cell.e))] [.one (B r)] := h ▸ qBD xs hl
theorem qBE (xs : List Cell) (hl : xs.length ≤ 8388608) : Rt 198 [.one (.sl 4 (xs.map Cell.e))] [.one (B (qcF xs))] := by
  have e0 : ∀ i : Nat, (((i : Int) + 1) - 1).toNat = i := fun i => by omega
  have e1 : ∀ i : Nat, (((i : Int) + 1)).toNat = i + 1 := fun i => by omega
  have hz : (xs.zip (xs.drop 1)).length = xs.length - 1 := by simp
  have l := qaV (P := Tryz.prog) (c := (qaa Tryz.f198 0)) (xs.zip (xs.drop 1)) qi3 (fun i => qda (xs.map Cell.e) ((i : Int) + 1)) (X := fun _ _ => qiK false) qao (qaf 0)
    (fun i a ha h => by
      obtain ⟨h1, h2⟩ := qgQ ha
      have hi := lt_of h2
      refine tr_to (qda (xs.map Cell.e)) (qvz ⟨dT (by simp only [List.length_map]; omega), ⟨by omega, by omega⟩, by omega, by simp only [List.length_map]; omega, by rw [e0, List.getElem?_map, h1]; rfl, by omega, by simp only [List.length_map]; omega, by rw [e1, List.getElem?_map, h2]; rfl, qlT a.1 a.2, h, ⟨by omega, by omega⟩, trivial⟩) (by omega))
    (fun i a ha h => by
      obtain ⟨h1, h2⟩ := qgQ ha
      have hi := lt_of h2
      exact qvy ⟨dT (by simp only [List.length_map]; omega), ⟨by omega, by omega⟩, by omega, by simp only [List.length_map]; omega, by rw [e0, List.getElem?_map, h1]; rfl, by omega, by simp only [List.length_map]; omega, by rw [e1, List.getElem?_map, h2]; rfl, qlT a.1 a.2, h, trivial⟩)
    (qvA ⟨dF (by rw [hz]; simp only [List.length_map]; omega), trivial⟩)
  unfold qcF
  rcases l with ⟨_, _, h1, h2⟩ | ⟨i, a, _, _, _, _, h1, h2⟩
  · rw [h1]; exact qvC ⟨h2, trivial⟩
  · rw [h1]; exact qvB ⟨h2, trivial⟩
theorem qmu (xs : List Cell) (r : Bool) (h : qcF xs = r) (hl : xs.length ≤ 8388608) : Rt 198 [.one (.sl 4 (xs.map Cell.e))] [.one (B r)] := h ▸ qBE xs hl
def qd2 (g : Graph) (r : Record) : Bool := !qaH r || decide (r.op ≥ (g.nodes.length : Int))
def qaX (g : Graph) (xs : List Record) : Bool := !(xs.any (qd2 g))
theorem qBF {r : Record} (h : qaH r = true) : 0 ≤ r.op := by
  simp only [qaH, Bool.and_eq_true, inR, decide_eq_true_eq] at h
  omega
theorem qBG (g : Graph) (xs : List Record) (hl : xs.length ≤ 8388608) : Rt 189 [.agg g.e, .one (.sl 5 (xs.map Record.e))] [.one (B (qaX g xs))] := by
  have l := qaV (P := Tryz.prog) (c := (qaa Tryz.f189 0)) xs (qd2 g) (fun i => qdb (g.nodes.map Node.e) g.workers g.cap (xs.map Record.e) i) (X := fun _ _ => qgE false) qao (qaf 0)
    (fun i a ha h => by
      simp only [qd2, Bool.or_eq_false_iff, Bool.not_eq_false'] at h
      have c := qgO a
      rw [h.1] at c
      exact qvF ⟨lt1 (lt_of ha), lt0, lt2 (lt_of ha), qac Record.e ha, c, rfl, lt0, lt2 (lt_of ha), qac Record.e ha, by rw [List.length_map]; exact h.2, up1 (lt_of ha) hl, trivial⟩)
    (fun i a ha h => by
      have c := qgO a
      cases hr : qaH a with
      | false =>
        rw [hr] at c
        exact qvD ⟨lt1 (lt_of ha), lt0, lt2 (lt_of ha), qac Record.e ha, c, rfl, trivial⟩
      | true =>
        rw [hr] at c
        simp only [qd2, hr, Bool.not_true, Bool.false_or] at h
        exact qvE ⟨lt1 (lt_of ha), lt0, lt2 (lt_of ha), qac Record.e ha, c, rfl, lt0, lt2 (lt_of ha), qac Record.e ha, by rw [List.length_map]; exact h, trivial⟩)
    (qvG ⟨ge1, trivial⟩)
  unfold qaX
  rcases l with ⟨_, _, h1, h2⟩ | ⟨i, a, _, _, _, _, h1, h2⟩
  · rw [h1]; exact qvI ⟨h2, trivial⟩
  · rw [h1]; exact qvH ⟨h2, trivial⟩
theorem qmv {g : Graph} {r : Record} (h : qaH r = true) : (qbv g r.op).isSome = !(decide (r.op ≥ (g.nodes.length : Int))) := by
  have h0 := qBF h
  unfold qbv
  rw [if_pos h0]
  by_cases hc : r.op ≥ (g.nodes.length : Int)
  · rw [dT hc, List.getElem?_eq_none (by omega)]; rfl
  · rw [dF hc, List.getElem?_eq_getElem (by omega)]; rfl
theorem qBH (g : Graph) (xs : List Record) (hg : g.sz ≤ 8388608) (hl : xs.length ≤ 8388608) : Rt 125 [.agg g.e, .one (.sl 5 (xs.map Record.e))] [.one (B (qaX g xs))] := by
  have l := qaV (P := Tryz.prog) (c := (qaa Tryz.f125 0)) xs (qd2 g) (fun i => qdc (xs.map Record.e) i (g.nodes.map Node.e) g.workers g.cap) (X := fun _ _ => qgF false) qao (qaf 0)
    (fun i a ha h => by
      simp only [qd2, Bool.or_eq_false_iff, Bool.not_eq_false'] at h
      have c := qgP a
      rw [h.1] at c
      exact qvL ⟨lt1 (lt_of ha), lt0, lt2 (lt_of ha), qac Record.e ha, c, rfl, ql6 g a.op true (by rw [qmv h.1, h.2]; rfl) hg, rfl, up1 (lt_of ha) hl, trivial⟩)
    (fun i a ha h => by
      have c := qgP a
      cases hr : qaH a with
      | false =>
        rw [hr] at c
        exact qvJ ⟨lt1 (lt_of ha), lt0, lt2 (lt_of ha), qac Record.e ha, c, rfl, trivial⟩
      | true =>
        rw [hr] at c
        simp only [qd2, hr, Bool.not_true, Bool.false_or] at h
        exact qvK ⟨lt1 (lt_of ha), lt0, lt2 (lt_of ha), qac Record.e ha, c, rfl, ql6 g a.op false (by rw [qmv hr, h]; rfl) hg, rfl, trivial⟩)
    (qvM ⟨ge1, trivial⟩)
  unfold qaX
  rcases l with ⟨_, _, h1, h2⟩ | ⟨i, a, _, _, _, _, h1, h2⟩
  · rw [h1]; exact qvO ⟨h2, trivial⟩
  · rw [h1]; exact qvN ⟨h2, trivial⟩
theorem qd3 (g : Graph) (xs : List Record) (r : Bool) (h : qaX g xs = r) (_ : g.sz ≤ 8388608) (hl : xs.length ≤ 8388608) : Rt 189 [.agg g.e, .one (.sl 5 (xs.map Record.e))] [.one (B r)] := h ▸ qBG g xs hl
theorem qd4 (g : Graph) (xs : List Record) (r : Bool) (h : qaX g xs = r) (hg : g.sz ≤ 8388608) (hl : xs.length ≤ 8388608) : Rt 125 [.agg g.e, .one (.sl 5 (xs.map Record.e))] [.one (B r)] := h ▸ qBH g xs hg hl
def qbS (l : Link) : Bool :=
  inR l.cap 1 4 && inR l.credits 0 l.cap && inR l.back 0 l.cap && (l.credits + l.back + l.queue.length == l.cap) && inR l.sent 0 1000000000 && decide (0 ≤ l.got) && (l.got == l.sent - l.queue.length) && !(l.queue.any fun r => !qaH r)
theorem qBI (xs : List Record) (hl : xs.length ≤ 8388608) : Rt 199 [.one (.sl 5 (xs.map Record.e))] [.one (B (!(xs.any fun r => !qaH r)))] := by
  have l := qaV (P := Tryz.prog) (c := (qaa Tryz.f199 0)) xs (fun r => !qaH r) (fun i => qdX (xs.map Record.e) i) (X := fun _ _ => qiT false) qao (qaf 0)
    (fun i a ha h => qwY ⟨lt1 (lt_of ha), lt0, lt2 (lt_of ha), qac Record.e ha, qgP a, h, up1 (lt_of ha) hl, trivial⟩)
    (fun i a ha h => qwX ⟨lt1 (lt_of ha), lt0, lt2 (lt_of ha), qac Record.e ha, qgP a, h, trivial⟩)
    (qwZ ⟨ge1, trivial⟩)
  rcases l with ⟨_, _, h1, h2⟩ | ⟨i, a, _, _, _, _, h1, h2⟩
  · rw [h1]; exact qw1 ⟨h2, trivial⟩
  · rw [h1]; exact qw0 ⟨h2, trivial⟩
theorem qBJ (l : Link) (hl : l.sz ≤ 8388608) (hgot : l.got ≤ 9223372036854775807) : Rt 124 [.agg l.e] [.one (B (qbS l))] := by
  have hq : l.queue.length ≤ 8388608 := hl
  have c1 := qa4 l.cap 1 4
  have c2 := qa4 l.credits 0 l.cap
  have c3 := qa4 l.back 0 l.cap
  have c4 := qa4 l.sent 0 1000000000
  have c5 := qBI l.queue hq
  unfold qbS
  cases h1 : inR l.cap 1 4 with
  | false => rw [h1] at c1; exact qwP ⟨c1, rfl, trivial⟩
  | true =>
  cases h2 : inR l.credits 0 l.cap with
  | false => rw [h1] at c1; rw [h2] at c2; exact qwQ ⟨c1, rfl, c2, rfl, trivial⟩
  | true =>
  cases h3 : inR l.back 0 l.cap with
  | false => rw [h1] at c1; rw [h2] at c2; rw [h3] at c3; exact qwR ⟨c1, rfl, c2, rfl, c3, rfl, trivial⟩
  | true =>
  have k1 := h1
  have k2 := h2
  have k3 := h3
  simp only [inR, decide_eq_true_eq] at k1 k2 k3
  rw [h1] at c1; rw [h2] at c2; rw [h3] at c3
  have u1 : inInt .i64 (l.credits + l.back) := ⟨by omega, by omega⟩
  have u2 : inInt .i64 (l.credits + l.back + (↑(l.queue.map Record.e).length : Int)) := ⟨by simp only [List.length_map]; omega, by simp only [List.length_map]; omega⟩
  cases h4 : (l.credits + l.back + (l.queue.length : Int) == l.cap) with
  | false => exact qwS ⟨c1, rfl, c2, rfl, c3, rfl, u1, u2, by rw [List.length_map]; simpa using h4, trivial⟩
  | true =>
  have v4 : (l.credits + l.back + (↑(l.queue.map Record.e).length : Int) != l.cap) = false := by rw [List.length_map]; simpa using h4
  cases h5 : inR l.sent 0 1000000000 with
  | false => rw [h5] at c4; exact qwT ⟨c1, rfl, c2, rfl, c3, rfl, u1, u2, v4, c4, rfl, trivial⟩
  | true =>
  have k5 := h5
  simp only [inR, decide_eq_true_eq] at k5
  rw [h5] at c4
  by_cases h6 : l.got < 0
  · rw [dF (show ¬ 0 ≤ l.got by omega)]
    exact qwU ⟨c1, rfl, c2, rfl, c3, rfl, u1, u2, v4, c4, rfl, dT h6, trivial⟩
  · rw [dT (show 0 ≤ l.got by omega)]
    have u3 : inInt .i64 (l.sent - l.got) := ⟨by omega, by omega⟩
    · by_cases h7 : l.got = l.sent - (l.queue.length : Int)
      · rw [show (l.got == l.sent - (l.queue.length : Int)) = true from by simpa using h7]
        exact qwW ⟨c1, rfl, c2, rfl, c3, rfl, u1, u2, v4, c4, rfl, dF h6, u3, by rw [List.length_map]; simp; omega, c5, trivial⟩
      · rw [show (l.got == l.sent - (l.queue.length : Int)) = false from by simpa using h7]
        exact qwV ⟨c1, rfl, c2, rfl, c3, rfl, u1, u2, v4, c4, rfl, dF h6, u3, by rw [List.length_map]; simp; omega, trivial⟩
theorem qBK (l : Link) (hl : l.sz ≤ 8388608) : Rt 188 [.agg l.e] [.one (B (qbS l))] := by
  have hq : l.queue.length ≤ 8388608 := hl
  have lp := qaV (P := Tryz.prog) (c := (qaa Tryz.f188 0)) l.queue (fun r => !qaH r) (fun i => qbF l.cap (l.queue.map Record.e) l.credits l.back l.sent l.got i) (X := fun _ _ => qiS false) qao (qaf 0)
    (fun i a ha h => qwF ⟨lt1 (lt_of ha), lt0, lt2 (lt_of ha), qac Record.e ha, qgO a, h, up1 (lt_of ha) hq, trivial⟩)
    (fun i a ha h => qwE ⟨lt1 (lt_of ha), lt0, lt2 (lt_of ha), qac Record.e ha, qgO a, h, trivial⟩)
    (qwG ⟨ge1, trivial⟩)
  unfold qbS
  rcases lp with ⟨_, _, h0, lp⟩ | ⟨i, a, _, _, _, _, h0, lp⟩
  case inr =>
    rw [h0, Bool.not_true, Bool.and_false]
    exact qwH ⟨lp, trivial⟩
  rw [h0, Bool.not_false, Bool.and_true]
  have c1 := qa0 l.cap 1 4
  have c2 := qa0 l.credits 0 l.cap
  have c3 := qa0 l.back 0 l.cap
  have c4 := qa0 l.sent 0 1000000000
  cases h1 : inR l.cap 1 4 with
  | false => rw [h1] at c1; exact qwO ⟨lp, c1, rfl, trivial⟩
  | true =>
  cases h2 : inR l.credits 0 l.cap with
  | false => rw [h1] at c1; rw [h2] at c2; exact qwN ⟨lp, c1, rfl, c2, rfl, trivial⟩
  | true =>
  cases h3 : inR l.back 0 l.cap with
  | false => rw [h1] at c1; rw [h2] at c2; rw [h3] at c3; exact qwM ⟨lp, c1, rfl, c2, rfl, c3, rfl, trivial⟩
  | true =>
  have k1 := h1
  have k2 := h2
  have k3 := h3
  simp only [inR, decide_eq_true_eq] at k1 k2 k3
  rw [h1] at c1; rw [h2] at c2; rw [h3] at c3
  have u1 : inInt .i64 (l.credits + l.back) := ⟨by omega, by omega⟩
  have u2 : inInt .i64 (l.credits + l.back + (↑(l.queue.map Record.e).length : Int)) := ⟨by simp only [List.length_map]; omega, by simp only [List.length_map]; omega⟩
  cases h4 : (l.credits + l.back + (l.queue.length : Int) == l.cap) with
  | false => exact qwL ⟨lp, c1, rfl, c2, rfl, c3, rfl, u1, u2, by rw [List.length_map]; exact h4, trivial⟩
  | true =>
  have v4 : (l.credits + l.back + (↑(l.queue.map Record.e).length : Int) == l.cap) = true := by rw [List.length_map]; exact h4
  cases h5 : inR l.sent 0 1000000000 with
  | false => rw [h5] at c4; exact qwK ⟨lp, c1, rfl, c2, rfl, c3, rfl, u1, u2, v4, c4, rfl, trivial⟩
  | true =>
  have k5 := h5
  simp only [inR, decide_eq_true_eq] at k5
  rw [h5] at c4
  have u3 : inInt .i64 (l.sent - (↑(l.queue.map Record.e).length : Int)) := ⟨by simp only [List.length_map]; omega, by simp only [List.length_map]; omega⟩
  cases h7 : (l.got == l.sent - (l.queue.length : Int)) with
  | false =>
    rw [Bool.and_false]
    exact qwJ ⟨lp, c1, rfl, c2, rfl, c3, rfl, u1, u2, v4, c4, rfl, u3, by rw [List.length_map]; exact h7, trivial⟩
  | true =>
    rw [Bool.and_true]
    exact qwI ⟨lp, c1, rfl, c2, rfl, c3, rfl, u1, u2, v4, c4, rfl, u3, by rw [List.length_map]; exact h7, trivial⟩
end Go.Proofs.YtdanpadojemjeaaGreat
namespace Go.Proofs.YtdanpadojemjeaaGreat
open Go.Sx Go.RowKit
def inBad (xs : List Record) (i : Nat) (r : Record) : Bool :=
  r.op != 0 || r.stamp.turn != 0 || (match i with | 0 => false | j + 1 => match xs[j]? with | some q => decide (q.stamp.epoch > r.stamp.epoch) | none => false)
theorem qmw {xs : List Record} {i : Nat} {a : Record} (ha : xs[i]? = some a) (h : inBad xs i a = true) :
    (a.op != 0) = true ∨ ((a.op != 0) = false ∧ (a.stamp.turn != 0) = true) ∨ ((a.op != 0) = false ∧ (a.stamp.turn != 0) = false ∧ ∃ j b, i = j + 1 ∧ xs[j]? = some b ∧ decide (b.stamp.epoch > a.stamp.epoch) = true) := by
  unfold inBad at h
  cases h1 : (a.op != 0) with
  | true => exact .inl rfl
  | false =>
  cases h2 : (a.stamp.turn != 0) with
  | true => exact .inr (.inl ⟨rfl, rfl⟩)
  | false =>
  rw [h1, h2, Bool.false_or, Bool.false_or] at h
  cases i with
  | zero => cases h
  | succ j =>
    have hj : j < xs.length := by have := lt_of ha; omega
    obtain ⟨b, hb⟩ := qae hj
    simp only [hb] at h
    exact .inr (.inr ⟨rfl, rfl, j, b, rfl, hb, h⟩)
theorem qmx {xs : List Record} {i : Nat} {a : Record} (ha : xs[i]? = some a) (h : inBad xs i a = false) :
    (a.op != 0) = false ∧ (a.stamp.turn != 0) = false ∧ (i = 0 ∨ ∃ j b, i = j + 1 ∧ xs[j]? = some b ∧ decide (b.stamp.epoch > a.stamp.epoch) = false) := by
  unfold inBad at h
  rw [Bool.or_eq_false_iff, Bool.or_eq_false_iff] at h
  obtain ⟨⟨h1, h2⟩, h⟩ := h
  refine ⟨h1, h2, ?_⟩
  cases i with
  | zero => exact .inl rfl
  | succ j =>
    have hj : j < xs.length := by have := lt_of ha; omega
    obtain ⟨b, hb⟩ := qae hj
    simp only [hb] at h
    exact .inr ⟨j, b, rfl, hb, h⟩
theorem qgR {α : Type} (f : α → List D) {xs : List α} {j : Nat} {b : α} (h : xs[j]? = some b) : (xs.map f)[(((j + 1 : Nat) : Int) - 1).toNat]? = some (f b) := by
  rw [show (((j + 1 : Nat) : Int) - 1) = (j : Int) by omega]
  exact qac f h
theorem qgS {α β : Type} {f : α → β} {xs : List α} {j : Nat} {b : α} (h : xs[j]? = some b) : (((j + 1 : Nat) : Int) - 1) < (↑(xs.map f).length : Int) := by
  have := lt_of h
  rw [List.length_map]; omega
def qcR (n : Int) : Bool := !inR n (-1000000) 1000000
def qbf (xs : List Done) (i : Nat) (d : Done) : Bool := !inR d.epoch 0 3 || (xs.take i).any (fun q => q.epoch == d.epoch)
theorem len4 {α β : Type} {f : α → β} {xs : List α} (h : (xs.length == 4) = true) : ((↑(xs.map f).length : Int) != 4) = false := by
  rw [List.length_map, eq_of_beq h]; rfl
theorem len4' {α β : Type} {f : α → β} {xs : List α} (h : (xs.length == 4) = false) : ((↑(xs.map f).length : Int) != 4) = true := by
  rw [List.length_map]
  have := ne_of_beq_false h
  simp only [bne_iff_ne, ne_eq]; omega
def qaQ (g : Graph) (w : Worker) : Bool :=
  qaX g w.queue && (qaX g w.staged && (qaX g w.inputs && (qcF w.cells && ((w.sums.length == 4) && ((w.black.length == 4) && ((w.caps.length == 4) && (!anyI (inBad w.inputs) 0 w.inputs && (!(w.sums.any qcR) && !anyI (qbf w.dones) 0 w.dones))))))))
theorem Worker.staged_le {w : Worker} (h : w.sz ≤ 8388608) : w.staged.length ≤ 8388608 := by simp only [Worker.sz] at h; omega
theorem Worker.cells_le' {w : Worker} (h : w.sz ≤ 8388608) : w.cells.length ≤ 8388608 := by simp only [Worker.sz] at h; omega
theorem Worker.sums_le {w : Worker} (h : w.sz ≤ 8388608) : w.sums.length ≤ 8388608 := by simp only [Worker.sz] at h; omega
theorem Worker.dones_le' {w : Worker} (h : w.sz ≤ 8388608) : w.dones.length ≤ 8388608 := by simp only [Worker.sz] at h; omega
theorem qBL (w : Worker) (hl : w.inputs.length ≤ 8388608) :
    (anyI (inBad w.inputs) 0 w.inputs = false ∧ qam Tryz.prog (qaa Tryz.f187 0) (qbl (w.queue.map Record.e) (w.staged.map Record.e) (w.inputs.map Record.e) (w.cells.map Cell.e) (w.sums.map eI) (w.black.map eB) (w.caps.map eB) (w.dones.map Done.e) 0) (.exit 0) (qfx (w.queue.map Record.e) (w.staged.map Record.e) (w.inputs.map Record.e) (w.cells.map Cell.e) (w.sums.map eI) (w.black.map eB) (w.caps.map eB) (w.dones.map Done.e))) ∨
    (anyI (inBad w.inputs) 0 w.inputs = true ∧ qam Tryz.prog (qaa Tryz.f187 0) (qbl (w.queue.map Record.e) (w.staged.map Record.e) (w.inputs.map Record.e) (w.cells.map Cell.e) (w.sums.map eI) (w.black.map eB) (w.caps.map eB) (w.dones.map Done.e) 0) .ret (qfw false)) :=
  qc6 (P := Tryz.prog) (c := (qaa Tryz.f187 0)) w.inputs (inBad w.inputs) (fun i => qbl (w.queue.map Record.e) (w.staged.map Record.e) (w.inputs.map Record.e) (w.cells.map Cell.e) (w.sums.map eI) (w.black.map eB) (w.caps.map eB) (w.dones.map Done.e) i) qao (qaf 0)
    (fun i a ha h => by
      have hi := lt_of ha
      obtain ⟨h1, h2, rfl | ⟨j, b, rfl, hb, h3⟩⟩ := qmx ha h
      · exact qv0 ⟨lt1 (lt_of ha), lt0, lt2 (lt_of ha), qac Record.e ha, h1, lt0, lt2 (lt_of ha), qac Record.e ha, h2, dF (by omega), up1 (lt_of ha) hl, trivial⟩
      · exact qvZ ⟨lt1 (lt_of ha), lt0, lt2 (lt_of ha), qac Record.e ha, h1, lt0, lt2 (lt_of ha), qac Record.e ha, h2, dT (by omega), ⟨by omega, by omega⟩, by omega, qgS hb, qgR Record.e hb, lt0, lt2 (lt_of ha), qac Record.e ha, h3, up1 (lt_of ha) hl, trivial⟩)
    (fun i a ha h => by
      have hi := lt_of ha
      rcases qmw ha h with h1 | ⟨h1, h2⟩ | ⟨h1, h2, j, b, rfl, hb, h3⟩
      · exact qvW ⟨lt1 (lt_of ha), lt0, lt2 (lt_of ha), qac Record.e ha, h1, trivial⟩
      · exact qvX ⟨lt1 (lt_of ha), lt0, lt2 (lt_of ha), qac Record.e ha, h1, lt0, lt2 (lt_of ha), qac Record.e ha, h2, trivial⟩
      · exact qvY ⟨lt1 (lt_of ha), lt0, lt2 (lt_of ha), qac Record.e ha, h1, lt0, lt2 (lt_of ha), qac Record.e ha, h2, dT (by omega), ⟨by omega, by omega⟩, by omega, qgS hb, qgR Record.e hb, lt0, lt2 (lt_of ha), qac Record.e ha, h3, trivial⟩)
    (qv1 ⟨ge1, trivial⟩)
theorem qBM (w : Worker) (hl : w.dones.length ≤ 8388608) :
    (anyI (qbf w.dones) 0 w.dones = false ∧ qam Tryz.prog (qaa Tryz.f187 2) (qcy (w.queue.map Record.e) (w.staged.map Record.e) (w.inputs.map Record.e) (w.cells.map Cell.e) (w.sums.map eI) (w.black.map eB) (w.caps.map eB) (w.dones.map Done.e) 0) (.exit 4) qiO) ∨
    (anyI (qbf w.dones) 0 w.dones = true ∧ qam Tryz.prog (qaa Tryz.f187 2) (qcy (w.queue.map Record.e) (w.staged.map Record.e) (w.inputs.map Record.e) (w.cells.map Cell.e) (w.sums.map eI) (w.black.map eB) (w.caps.map eB) (w.dones.map Done.e) 0) .ret (qgG false)) := by
  have inner : ∀ (i : Nat) (a : Done), w.dones[i]? = some a →
      (((w.dones.take i).any (fun q => q.epoch == a.epoch)) = false ∧ qam Tryz.prog (qaa Tryz.f187 3) (qcQ (w.queue.map Record.e) (w.staged.map Record.e) (w.inputs.map Record.e) (w.cells.map Cell.e) (w.sums.map eI) (w.black.map eB) (w.caps.map eB) (w.dones.map Done.e) i 0) (.exit 6) (qiN (w.queue.map Record.e) (w.staged.map Record.e) (w.inputs.map Record.e) (w.cells.map Cell.e) (w.sums.map eI) (w.black.map eB) (w.caps.map eB) (w.dones.map Done.e) i)) ∨
      (((w.dones.take i).any (fun q => q.epoch == a.epoch)) = true ∧ qam Tryz.prog (qaa Tryz.f187 3) (qcQ (w.queue.map Record.e) (w.staged.map Record.e) (w.inputs.map Record.e) (w.cells.map Cell.e) (w.sums.map eI) (w.black.map eB) (w.caps.map eB) (w.dones.map Done.e) i 0) .ret (qgH false)) := by
    intro i a ha
    have hi := lt_of ha
    have hlen : (w.dones.take i).length = i := by rw [List.length_take]; omega
    have tk : ∀ {k : Nat} {b : Done}, (w.dones.take i)[k]? = some b → k < i ∧ w.dones[k]? = some b := fun {k b} h => by
      have hk := lt_of h
      rw [hlen] at hk
      rw [List.getElem?_take, if_pos hk] at h
      exact ⟨hk, h⟩
    have l := qaV (P := Tryz.prog) (c := (qaa Tryz.f187 3)) (w.dones.take i) (fun q => q.epoch == a.epoch) (fun k => qcQ (w.queue.map Record.e) (w.staged.map Record.e) (w.inputs.map Record.e) (w.cells.map Cell.e) (w.sums.map eI) (w.black.map eB) (w.caps.map eB) (w.dones.map Done.e) i k) (X := fun _ _ => qgH false) qao (qaf 6)
      (fun k b hb h => by
        obtain ⟨hk, hb⟩ := tk hb
        exact qv9 ⟨dT (by omega), lt0, lt2 (lt_of hb), qac Done.e hb, lt0, lt2 (lt_of ha), qac Done.e ha, h, up1 (lt_of hb) hl, trivial⟩)
      (fun k b hb h => by
        obtain ⟨hk, hb⟩ := tk hb
        exact qv8 ⟨dT (by omega), lt0, lt2 (lt_of hb), qac Done.e hb, lt0, lt2 (lt_of ha), qac Done.e ha, h, trivial⟩)
      (qwa ⟨dF (by rw [hlen]; omega), trivial⟩)
    rcases l with ⟨_, _, h1, h2⟩ | ⟨_, _, _, _, _, _, h1, h2⟩
    · exact .inl ⟨h1, h2⟩
    · exact .inr ⟨h1, h2⟩
  exact qc6 (P := Tryz.prog) (c := (qaa Tryz.f187 2)) w.dones (qbf w.dones) (fun i => qcy (w.queue.map Record.e) (w.staged.map Record.e) (w.inputs.map Record.e) (w.cells.map Cell.e) (w.sums.map eI) (w.black.map eB) (w.caps.map eB) (w.dones.map Done.e) i) qao (qaf 4)
    (fun i a ha h => by
      simp only [qbf, Bool.or_eq_false_iff, Bool.not_eq_false'] at h
      rcases inner i a ha with ⟨e, l⟩ | ⟨e, l⟩
      · exact qwc ⟨lt1 (lt_of ha), lt0, lt2 (lt_of ha), qac Done.e ha, qaT _ _ _ true h.1, rfl, l, up1 (lt_of ha) hl, trivial⟩
      · rw [h.2] at e; cases e)
    (fun i a ha h => by
      cases h1 : inR a.epoch 0 3 with
      | false => exact qv7 ⟨lt1 (lt_of ha), lt0, lt2 (lt_of ha), qac Done.e ha, qaT _ _ _ false h1, rfl, trivial⟩
      | true =>
        simp only [qbf, h1, Bool.not_true, Bool.false_or] at h
        rcases inner i a ha with ⟨e, l⟩ | ⟨e, l⟩
        · rw [h] at e; cases e
        · exact qwb ⟨lt1 (lt_of ha), lt0, lt2 (lt_of ha), qac Done.e ha, qaT _ _ _ true h1, rfl, l, trivial⟩)
    (qwd ⟨ge1, trivial⟩)
theorem qmy (g : Graph) (w : Worker) (hg : g.sz ≤ 8388608) (hw : w.sz ≤ 8388608) : Rt 187 [.agg g.e, .agg w.e] [.one (B (qaQ g w))] := by
  unfold qaQ
  cases h1 : qaX g w.queue with
  | false => exact qvP ⟨qd3 g _ _ h1 hg (Worker.queue_le hw), rfl, trivial⟩
  | true =>
  have c1 := qd3 g _ _ h1 hg (Worker.queue_le hw)
  cases h2 : qaX g w.staged with
  | false => exact qvQ ⟨c1, rfl, qd3 g _ _ h2 hg (Worker.staged_le hw), rfl, trivial⟩
  | true =>
  have c2 := qd3 g _ _ h2 hg (Worker.staged_le hw)
  cases h3 : qaX g w.inputs with
  | false => exact qvR ⟨c1, rfl, c2, rfl, qd3 g _ _ h3 hg (Worker.inputs_le hw), rfl, trivial⟩
  | true =>
  have c3 := qd3 g _ _ h3 hg (Worker.inputs_le hw)
  cases h4 : qcF w.cells with
  | false => exact qvS ⟨c1, rfl, c2, rfl, c3, rfl, qmt _ _ h4 (Worker.cells_le' hw), rfl, trivial⟩
  | true =>
  have c4 := qmt _ _ h4 (Worker.cells_le' hw)
  cases h5 : (w.sums.length == 4) with
  | false => exact qvT ⟨c1, rfl, c2, rfl, c3, rfl, c4, rfl, len4' h5, trivial⟩
  | true =>
  cases h6 : (w.black.length == 4) with
  | false => exact qvU ⟨c1, rfl, c2, rfl, c3, rfl, c4, rfl, len4 h5, len4' h6, trivial⟩
  | true =>
  cases h7 : (w.caps.length == 4) with
  | false => exact qvV ⟨c1, rfl, c2, rfl, c3, rfl, c4, rfl, len4 h5, len4 h6, len4' h7, trivial⟩
  | true =>
  have hs4 : w.sums.length = 4 := eq_of_beq h5
  rcases qBL w (Worker.inputs_le hw) with ⟨h8, l8⟩ | ⟨h8, l8⟩
  case inr => rw [h8]; exact qv2 ⟨c1, rfl, c2, rfl, c3, rfl, c4, rfl, len4 h5, len4 h6, len4 h7, l8, trivial⟩
  have l9 := qaV (P := Tryz.prog) (c := (qaa Tryz.f187 1)) w.sums qcR (fun i => qdd (w.queue.map Record.e) (w.staged.map Record.e) (w.inputs.map Record.e) (w.cells.map Cell.e) (w.sums.map eI) (w.black.map eB) (w.caps.map eB) (w.dones.map Done.e) i) (X := fun _ _ => qiL false) qao (qaf 2)
    (fun i a ha h => qv4 ⟨dT (by have := lt_of ha; omega), lt0, lt2 (lt_of ha), qac eI ha, qaT _ _ _ true (by simpa [qcR] using h), rfl, up1 (lt_of ha) (Worker.sums_le hw), trivial⟩)
    (fun i a ha h => qv3 ⟨dT (by have := lt_of ha; omega), lt0, lt2 (lt_of ha), qac eI ha, qaT _ _ _ false (by simpa [qcR] using h), rfl, trivial⟩)
    (qv5 ⟨dF (by omega), trivial⟩)
  rw [h8]
  rcases l9 with ⟨_, _, h9, l9⟩ | ⟨_, _, _, _, _, _, h9, l9⟩
  case inr => rw [h9]; exact qv6 ⟨c1, rfl, c2, rfl, c3, rfl, c4, rfl, len4 h5, len4 h6, len4 h7, l8, l9, trivial⟩
  rw [h9]
  rcases qBM w (Worker.dones_le' hw) with ⟨h10, l10⟩ | ⟨h10, l10⟩
  · rw [h10]; exact qwf ⟨c1, rfl, c2, rfl, c3, rfl, c4, rfl, len4 h5, len4 h6, len4 h7, l8, l9, l10, trivial⟩
  · rw [h10]; exact qwe ⟨c1, rfl, c2, rfl, c3, rfl, c4, rfl, len4 h5, len4 h6, len4 h7, l8, l9, l10, trivial⟩
end Go.Proofs.YtdanpadojemjeaaGreat
namespace Go.Proofs.YtdanpadojemjeaaGreat
open Go.Sx Go.RowKit
theorem qBN (w : Worker) (hl : w.inputs.length ≤ 8388608) :
    (anyI (inBad w.inputs) 0 w.inputs = false ∧ qam Tryz.prog (qaa Tryz.f123 0) (qa7 (w.inputs.map Record.e) 0 (w.queue.map Record.e) (w.staged.map Record.e) (w.inputs.map Record.e) (w.cells.map Cell.e) (w.sums.map eI) (w.black.map eB) (w.caps.map eB) (w.dones.map Done.e)) (.exit 0) (qde (w.queue.map Record.e) (w.staged.map Record.e) (w.inputs.map Record.e) (w.cells.map Cell.e) (w.sums.map eI) (w.black.map eB) (w.caps.map eB) (w.dones.map Done.e))) ∨
    (anyI (inBad w.inputs) 0 w.inputs = true ∧ qam Tryz.prog (qaa Tryz.f123 0) (qa7 (w.inputs.map Record.e) 0 (w.queue.map Record.e) (w.staged.map Record.e) (w.inputs.map Record.e) (w.cells.map Cell.e) (w.sums.map eI) (w.black.map eB) (w.caps.map eB) (w.dones.map Done.e)) .ret (qfy false)) :=
  qc6 (P := Tryz.prog) (c := (qaa Tryz.f123 0)) w.inputs (inBad w.inputs) (fun i => qa7 (w.inputs.map Record.e) i (w.queue.map Record.e) (w.staged.map Record.e) (w.inputs.map Record.e) (w.cells.map Cell.e) (w.sums.map eI) (w.black.map eB) (w.caps.map eB) (w.dones.map Done.e)) qao (qaf 0)
    (fun i a ha h => by
      have hi := lt_of ha
      obtain ⟨h1, h2, rfl | ⟨j, b, rfl, hb, h3⟩⟩ := qmx ha h
      · exact qwo ⟨lt1 (lt_of ha), lt0, lt2 (lt_of ha), qac Record.e ha, h1, h2, dF (by omega), up1 (lt_of ha) hl, trivial⟩
      · exact qwn ⟨lt1 (lt_of ha), lt0, lt2 (lt_of ha), qac Record.e ha, h1, h2, dT (by omega), ⟨by omega, by omega⟩, by omega, qgS hb, qgR Record.e hb, h3, up1 (lt_of ha) hl, trivial⟩)
    (fun i a ha h => by
      have hi := lt_of ha
      rcases qmw ha h with h1 | ⟨h1, h2⟩ | ⟨h1, h2, j, b, rfl, hb, h3⟩
      · exact qwk ⟨lt1 (lt_of ha), lt0, lt2 (lt_of ha), qac Record.e ha, h1, trivial⟩
      · exact qwl ⟨lt1 (lt_of ha), lt0, lt2 (lt_of ha), qac Record.e ha, h1, h2, trivial⟩
      · exact qwm ⟨lt1 (lt_of ha), lt0, lt2 (lt_of ha), qac Record.e ha, h1, h2, dT (by omega), ⟨by omega, by omega⟩, by omega, qgS hb, qgR Record.e hb, h3, trivial⟩)
    (qwp ⟨ge1, trivial⟩)
theorem qmz (xs : List Done) (i : Nat) (e : Int) (r : Bool) (h : (xs.take i).any (fun q => q.epoch == e) = r) (hl : xs.length ≤ 8388608) : Rt 126 [.one (.sl 2 ((xs.map Done.e).take i)), .one (I e)] [.one (B r)] := by
  have c := ql0 (xs.take i) e (by rw [List.length_take]; omega)
  rw [List.map_take, h] at c
  exact c
theorem qBO (w : Worker) (hl : w.dones.length ≤ 8388608) :
    (anyI (qbf w.dones) 0 w.dones = false ∧ qam Tryz.prog (qaa Tryz.f123 2) (qcz (w.dones.map Done.e) 0 (w.queue.map Record.e) (w.staged.map Record.e) (w.inputs.map Record.e) (w.cells.map Cell.e) (w.sums.map eI) (w.black.map eB) (w.caps.map eB) (w.dones.map Done.e)) (.exit 4) qiR) ∨
    (anyI (qbf w.dones) 0 w.dones = true ∧ qam Tryz.prog (qaa Tryz.f123 2) (qcz (w.dones.map Done.e) 0 (w.queue.map Record.e) (w.staged.map Record.e) (w.inputs.map Record.e) (w.cells.map Cell.e) (w.sums.map eI) (w.black.map eB) (w.caps.map eB) (w.dones.map Done.e)) .ret (qgI false)) :=
  qc6 (P := Tryz.prog) (c := (qaa Tryz.f123 2)) w.dones (qbf w.dones) (fun i => qcz (w.dones.map Done.e) i (w.queue.map Record.e) (w.staged.map Record.e) (w.inputs.map Record.e) (w.cells.map Cell.e) (w.sums.map eI) (w.black.map eB) (w.caps.map eB) (w.dones.map Done.e)) qao (qaf 4)
    (fun i a ha h => by
      have hi := lt_of ha
      simp only [qbf, Bool.or_eq_false_iff, Bool.not_eq_false'] at h
      exact qwA ⟨lt1 (lt_of ha), lt0, lt2 (lt_of ha), qac Done.e ha, qaM _ _ _ true h.1, rfl, Int.le_refl 0, (lt0 : (0 : Int) ≤ (i : Int)), (show (i : Int) ≤ _ by rw [List.length_map]; omega), qmz w.dones i a.epoch false h.2 hl, rfl, up1 (lt_of ha) hl, trivial⟩)
    (fun i a ha h => by
      have hi := lt_of ha
      cases h1 : inR a.epoch 0 3 with
      | false => exact qwy ⟨lt1 (lt_of ha), lt0, lt2 (lt_of ha), qac Done.e ha, qaM _ _ _ false h1, rfl, trivial⟩
      | true =>
        simp only [qbf, h1, Bool.not_true, Bool.false_or] at h
        exact qwz ⟨lt1 (lt_of ha), lt0, lt2 (lt_of ha), qac Done.e ha, qaM _ _ _ true h1, rfl, Int.le_refl 0, (lt0 : (0 : Int) ≤ (i : Int)), (show (i : Int) ≤ _ by rw [List.length_map]; omega), qmz w.dones i a.epoch true h hl, rfl, trivial⟩)
    (qwB ⟨ge1, trivial⟩)
theorem qmA (g : Graph) (w : Worker) (hg : g.sz ≤ 8388608) (hw : w.sz ≤ 8388608) : Rt 123 [.agg g.e, .agg w.e] [.one (B (qaQ g w))] := by
  unfold qaQ
  cases h1 : qaX g w.queue with
  | false => exact qwg ⟨qd4 g _ _ h1 hg (Worker.queue_le hw), rfl, trivial⟩
  | true =>
  have c1 := qd4 g _ _ h1 hg (Worker.queue_le hw)
  cases h2 : qaX g w.staged with
  | false => exact qwh ⟨c1, rfl, qd4 g _ _ h2 hg (Worker.staged_le hw), rfl, trivial⟩
  | true =>
  have c2 := qd4 g _ _ h2 hg (Worker.staged_le hw)
  cases h3 : qaX g w.inputs with
  | false => exact qwi ⟨c1, rfl, c2, rfl, qd4 g _ _ h3 hg (Worker.inputs_le hw), rfl, trivial⟩
  | true =>
  have c3 := qd4 g _ _ h3 hg (Worker.inputs_le hw)
  cases h4 : qcF w.cells with
  | false => exact qwj ⟨c1, rfl, c2, rfl, c3, rfl, qmu _ _ h4 (Worker.cells_le' hw), rfl, trivial⟩
  | true =>
  have c4 := qmu _ _ h4 (Worker.cells_le' hw)
  rcases qBN w (Worker.inputs_le hw) with ⟨h8, l8⟩ | ⟨h8, l8⟩
  case inr =>
    rw [h8]
    simp only [Bool.not_true, Bool.false_and, Bool.and_false]
    exact qwq ⟨c1, rfl, c2, rfl, c3, rfl, c4, rfl, l8, trivial⟩
  cases h5 : (w.sums.length == 4) with
  | false => exact qwr ⟨c1, rfl, c2, rfl, c3, rfl, c4, rfl, l8, len4' h5, trivial⟩
  | true =>
  cases h6 : (w.black.length == 4) with
  | false => exact qws ⟨c1, rfl, c2, rfl, c3, rfl, c4, rfl, l8, len4 h5, len4' h6, trivial⟩
  | true =>
  cases h7 : (w.caps.length == 4) with
  | false => exact qwt ⟨c1, rfl, c2, rfl, c3, rfl, c4, rfl, l8, len4 h5, len4 h6, len4' h7, trivial⟩
  | true =>
  have l9 := qaV (P := Tryz.prog) (c := (qaa Tryz.f123 1)) w.sums qcR (fun i => qdf (w.queue.map Record.e) (w.staged.map Record.e) (w.inputs.map Record.e) (w.cells.map Cell.e) (w.sums.map eI) (w.black.map eB) (w.caps.map eB) (w.dones.map Done.e) i) (X := fun _ _ => qiP false) qao (qaf 2)
    (fun i a ha h => qwv ⟨lt1 (lt_of ha), lt0, lt2 (lt_of ha), qac eI ha, qaM _ _ _ true (by simpa [qcR] using h), rfl, up1 (lt_of ha) (Worker.sums_le hw), trivial⟩)
    (fun i a ha h => qwu ⟨lt1 (lt_of ha), lt0, lt2 (lt_of ha), qac eI ha, qaM _ _ _ false (by simpa [qcR] using h), rfl, trivial⟩)
    (qww ⟨ge1, trivial⟩)
  rw [h8]
  rcases l9 with ⟨_, _, h9, l9⟩ | ⟨_, _, _, _, _, _, h9, l9⟩
  case inr => rw [h9]; exact qwx ⟨c1, rfl, c2, rfl, c3, rfl, c4, rfl, l8, len4 h5, len4 h6, len4 h7, l9, trivial⟩
  rw [h9]
  rcases qBO w (Worker.dones_le' hw) with ⟨h10, l10⟩ | ⟨h10, l10⟩
  · rw [h10]; exact qwD ⟨c1, rfl, c2, rfl, c3, rfl, c4, rfl, l8, len4 h5, len4 h6, len4 h7, l9, l10, trivial⟩
  · rw [h10]; exact qwC ⟨c1, rfl, c2, rfl, c3, rfl, c4, rfl, l8, len4 h5, len4 h6, len4 h7, l9, l10, trivial⟩
end Go.Proofs.YtdanpadojemjeaaGreat
