/- ClusterOk, SafeCluster: what program and reference compute; the law SafeCluster answers true. -/
import Derived.Test.YtdanpadojemjeaaGreatP11
import Derived.Test.YtdanpadojemjeaaGreatP16
set_option linter.unusedVariables false
set_option linter.unusedSimpArgs false
namespace Go.Proofs.YtdanpadojemjeaaGreat
open Go.Sx Go.RowKit
def qiQ (p : Cell × Cell) : Bool := decide (qeH p.1 p.2 ≥ 0)
def qcC (xs : List Cell) : Bool := !((xs.zip (xs.drop 1)).any qiQ)
theorem qgB {xs : List Cell} {i : Nat} {p : Cell × Cell} (h : (xs.zip (xs.drop 1))[i]? = some p) : xs[i]? = some p.1 ∧ xs[i + 1]? = some p.2 := by
  rw [List.getElem?_zip_eq_some] at h
  obtain ⟨h1, h2⟩ := h
  rw [List.getElem?_drop, Nat.add_comm] at h2
  exact ⟨h1, h2⟩
theorem qAq (xs : List Cell) (hl : xs.length ≤ 8388608) : Rt 227 [.one (.sl 4 (xs.map Cell.e))] [.one (B (qcC xs))] := by
  have e0 : ∀ i : Nat, (((i : Int) + 1) - 1).toNat = i := fun i => by omega
  have e1 : ∀ i : Nat, (((i : Int) + 1)).toNat = i + 1 := fun i => by omega
  have hz : (xs.zip (xs.drop 1)).length = xs.length - 1 := by simp
  have l := qaQ (P := Tryz.prog) (c := (qaa Tryz.f227 0)) (xs.zip (xs.drop 1)) qiQ (fun i => qc2 (xs.map Cell.e) ((i : Int) + 1)) (X := fun _ _ => qiw false) qao (qaf 0)
    (fun i a ha h => by
      obtain ⟨h1, h2⟩ := qgB ha
      have hi := lt_of h2
      refine tr_to (qc2 (xs.map Cell.e)) (qug ⟨dT (by simp only [List.length_map]; omega), ⟨by omega, by omega⟩, by omega, by simp only [List.length_map]; omega, by rw [e0, List.getElem?_map, h1]; rfl, by omega, by simp only [List.length_map]; omega, by rw [e1, List.getElem?_map, h2]; rfl, qlD a.1 a.2, h, ⟨by omega, by omega⟩, trivial⟩) (by omega))
    (fun i a ha h => by
      obtain ⟨h1, h2⟩ := qgB ha
      have hi := lt_of h2
      exact quf ⟨dT (by simp only [List.length_map]; omega), ⟨by omega, by omega⟩, by omega, by simp only [List.length_map]; omega, by rw [e0, List.getElem?_map, h1]; rfl, by omega, by simp only [List.length_map]; omega, by rw [e1, List.getElem?_map, h2]; rfl, qlD a.1 a.2, h, trivial⟩)
    (quh ⟨dF (by rw [hz]; simp only [List.length_map]; omega), trivial⟩)
  unfold qcC
  rcases l with ⟨_, _, h1, h2⟩ | ⟨i, a, _, _, _, _, h1, h2⟩
  · rw [h1]; exact quj ⟨h2, trivial⟩
  · rw [h1]; exact qui ⟨h2, trivial⟩
theorem qma (xs : List Cell) (r : Bool) (h : qcC xs = r) (hl : xs.length ≤ 8388608) : Rt 227 [.one (.sl 4 (xs.map Cell.e))] [.one (B r)] := h ▸ qAq xs hl
theorem qAr (xs : List Cell) (hl : xs.length ≤ 8388608) : Rt 198 [.one (.sl 4 (xs.map Cell.e))] [.one (B (qcC xs))] := by
  have e0 : ∀ i : Nat, (((i : Int) + 1) - 1).toNat = i := fun i => by omega
  have e1 : ∀ i : Nat, (((i : Int) + 1)).toNat = i + 1 := fun i => by omega
  have hz : (xs.zip (xs.drop 1)).length = xs.length - 1 := by simp
  have l := qaQ (P := Tryz.prog) (c := (qaa Tryz.f198 0)) (xs.zip (xs.drop 1)) qiQ (fun i => qc3 (xs.map Cell.e) ((i : Int) + 1)) (X := fun _ _ => qix false) qao (qaf 0)
    (fun i a ha h => by
      obtain ⟨h1, h2⟩ := qgB ha
      have hi := lt_of h2
      refine tr_to (qc3 (xs.map Cell.e)) (qul ⟨dT (by simp only [List.length_map]; omega), ⟨by omega, by omega⟩, by omega, by simp only [List.length_map]; omega, by rw [e0, List.getElem?_map, h1]; rfl, by omega, by simp only [List.length_map]; omega, by rw [e1, List.getElem?_map, h2]; rfl, qlC a.1 a.2, h, ⟨by omega, by omega⟩, trivial⟩) (by omega))
    (fun i a ha h => by
      obtain ⟨h1, h2⟩ := qgB ha
      have hi := lt_of h2
      exact quk ⟨dT (by simp only [List.length_map]; omega), ⟨by omega, by omega⟩, by omega, by simp only [List.length_map]; omega, by rw [e0, List.getElem?_map, h1]; rfl, by omega, by simp only [List.length_map]; omega, by rw [e1, List.getElem?_map, h2]; rfl, qlC a.1 a.2, h, trivial⟩)
    (qum ⟨dF (by rw [hz]; simp only [List.length_map]; omega), trivial⟩)
  unfold qcC
  rcases l with ⟨_, _, h1, h2⟩ | ⟨i, a, _, _, _, _, h1, h2⟩
  · rw [h1]; exact qup ⟨h2, trivial⟩
  · rw [h1]; exact qun ⟨h2, trivial⟩
theorem qmb (xs : List Cell) (r : Bool) (h : qcC xs = r) (hl : xs.length ≤ 8388608) : Rt 198 [.one (.sl 4 (xs.map Cell.e))] [.one (B r)] := h ▸ qAr xs hl
def qdT (g : Graph) (r : Record) : Bool := !qaG r || decide (r.op ≥ (g.nodes.length : Int))
def qaS (g : Graph) (xs : List Record) : Bool := !(xs.any (qdT g))
theorem qAs {r : Record} (h : qaG r = true) : 0 ≤ r.op := by
  simp only [qaG, Bool.and_eq_true, inR, decide_eq_true_eq] at h
  omega
theorem qAt (g : Graph) (xs : List Record) (hl : xs.length ≤ 8388608) : Rt 189 [.agg g.e, .one (.sl 5 (xs.map Record.e))] [.one (B (qaS g xs))] := by
  have l := qaQ (P := Tryz.prog) (c := (qaa Tryz.f189 0)) xs (qdT g) (fun i => qc4 (g.nodes.map Node.e) g.workers g.cap (xs.map Record.e) i) (X := fun _ _ => qgp false) qao (qaf 0)
    (fun i a ha h => by
      simp only [qdT, Bool.or_eq_false_iff, Bool.not_eq_false'] at h
      have c := qgz a
      rw [h.1] at c
      exact qus ⟨lt1 (lt_of ha), lt0, lt2 (lt_of ha), qac Record.e ha, c, rfl, lt0, lt2 (lt_of ha), qac Record.e ha, by rw [List.length_map]; exact h.2, up1 (lt_of ha) hl, trivial⟩)
    (fun i a ha h => by
      have c := qgz a
      cases hr : qaG a with
      | false =>
        rw [hr] at c
        exact quq ⟨lt1 (lt_of ha), lt0, lt2 (lt_of ha), qac Record.e ha, c, rfl, trivial⟩
      | true =>
        rw [hr] at c
        simp only [qdT, hr, Bool.not_true, Bool.false_or] at h
        exact qur ⟨lt1 (lt_of ha), lt0, lt2 (lt_of ha), qac Record.e ha, c, rfl, lt0, lt2 (lt_of ha), qac Record.e ha, by rw [List.length_map]; exact h, trivial⟩)
    (qut ⟨ge1, trivial⟩)
  unfold qaS
  rcases l with ⟨_, _, h1, h2⟩ | ⟨i, a, _, _, _, _, h1, h2⟩
  · rw [h1]; exact quv ⟨h2, trivial⟩
  · rw [h1]; exact quu ⟨h2, trivial⟩
theorem qmc {g : Graph} {r : Record} (h : qaG r = true) : (qbr g r.op).isSome = !(decide (r.op ≥ (g.nodes.length : Int))) := by
  have h0 := qAs h
  unfold qbr
  rw [if_pos h0]
  by_cases hc : r.op ≥ (g.nodes.length : Int)
  · rw [dT hc, List.getElem?_eq_none (by omega)]; rfl
  · rw [dF hc, List.getElem?_eq_getElem (by omega)]; rfl
theorem qAu (g : Graph) (xs : List Record) (hg : g.sz ≤ 8388608) (hl : xs.length ≤ 8388608) : Rt 125 [.agg g.e, .one (.sl 5 (xs.map Record.e))] [.one (B (qaS g xs))] := by
  have l := qaQ (P := Tryz.prog) (c := (qaa Tryz.f125 0)) xs (qdT g) (fun i => qc5 (xs.map Record.e) i (g.nodes.map Node.e) g.workers g.cap) (X := fun _ _ => qgq false) qao (qaf 0)
    (fun i a ha h => by
      simp only [qdT, Bool.or_eq_false_iff, Bool.not_eq_false'] at h
      have c := qgA a
      rw [h.1] at c
      exact quy ⟨lt1 (lt_of ha), lt0, lt2 (lt_of ha), qac Record.e ha, c, rfl, qlO g a.op true (by rw [qmc h.1, h.2]; rfl) hg, rfl, up1 (lt_of ha) hl, trivial⟩)
    (fun i a ha h => by
      have c := qgA a
      cases hr : qaG a with
      | false =>
        rw [hr] at c
        exact quw ⟨lt1 (lt_of ha), lt0, lt2 (lt_of ha), qac Record.e ha, c, rfl, trivial⟩
      | true =>
        rw [hr] at c
        simp only [qdT, hr, Bool.not_true, Bool.false_or] at h
        exact qux ⟨lt1 (lt_of ha), lt0, lt2 (lt_of ha), qac Record.e ha, c, rfl, qlO g a.op false (by rw [qmc hr, h]; rfl) hg, rfl, trivial⟩)
    (quz ⟨ge1, trivial⟩)
  unfold qaS
  rcases l with ⟨_, _, h1, h2⟩ | ⟨i, a, _, _, _, _, h1, h2⟩
  · rw [h1]; exact quB ⟨h2, trivial⟩
  · rw [h1]; exact quA ⟨h2, trivial⟩
theorem qdU (g : Graph) (xs : List Record) (r : Bool) (h : qaS g xs = r) (_ : g.sz ≤ 8388608) (hl : xs.length ≤ 8388608) : Rt 189 [.agg g.e, .one (.sl 5 (xs.map Record.e))] [.one (B r)] := h ▸ qAt g xs hl
theorem qdV (g : Graph) (xs : List Record) (r : Bool) (h : qaS g xs = r) (hg : g.sz ≤ 8388608) (hl : xs.length ≤ 8388608) : Rt 125 [.agg g.e, .one (.sl 5 (xs.map Record.e))] [.one (B r)] := h ▸ qAu g xs hg hl
def qbM (l : Link) : Bool :=
  inR l.cap 1 4 && inR l.credits 0 l.cap && inR l.back 0 l.cap && (l.credits + l.back + l.queue.length == l.cap) && inR l.sent 0 1000000000 && decide (0 ≤ l.got) && (l.got == l.sent - l.queue.length) && !(l.queue.any fun r => !qaG r)
theorem qAv (xs : List Record) (hl : xs.length ≤ 8388608) : Rt 199 [.one (.sl 5 (xs.map Record.e))] [.one (B (!(xs.any fun r => !qaG r)))] := by
  have l := qaQ (P := Tryz.prog) (c := (qaa Tryz.f199 0)) xs (fun r => !qaG r) (fun i => qdO (xs.map Record.e) i) (X := fun _ _ => qiG false) qao (qaf 0)
    (fun i a ha h => qvL ⟨lt1 (lt_of ha), lt0, lt2 (lt_of ha), qac Record.e ha, qgA a, h, up1 (lt_of ha) hl, trivial⟩)
    (fun i a ha h => qvK ⟨lt1 (lt_of ha), lt0, lt2 (lt_of ha), qac Record.e ha, qgA a, h, trivial⟩)
    (qvM ⟨ge1, trivial⟩)
  rcases l with ⟨_, _, h1, h2⟩ | ⟨i, a, _, _, _, _, h1, h2⟩
  · rw [h1]; exact qvO ⟨h2, trivial⟩
  · rw [h1]; exact qvN ⟨h2, trivial⟩
theorem qAw (l : Link) (hl : l.sz ≤ 8388608) (hgot : l.got ≤ 9223372036854775807) : Rt 124 [.agg l.e] [.one (B (qbM l))] := by
  have hq : l.queue.length ≤ 8388608 := hl
  have c1 := qa2 l.cap 1 4
  have c2 := qa2 l.credits 0 l.cap
  have c3 := qa2 l.back 0 l.cap
  have c4 := qa2 l.sent 0 1000000000
  have c5 := qAv l.queue hq
  unfold qbM
  cases h1 : inR l.cap 1 4 with
  | false => rw [h1] at c1; exact qvC ⟨c1, rfl, trivial⟩
  | true =>
  cases h2 : inR l.credits 0 l.cap with
  | false => rw [h1] at c1; rw [h2] at c2; exact qvD ⟨c1, rfl, c2, rfl, trivial⟩
  | true =>
  cases h3 : inR l.back 0 l.cap with
  | false => rw [h1] at c1; rw [h2] at c2; rw [h3] at c3; exact qvE ⟨c1, rfl, c2, rfl, c3, rfl, trivial⟩
  | true =>
  have k1 := h1
  have k2 := h2
  have k3 := h3
  simp only [inR, decide_eq_true_eq] at k1 k2 k3
  rw [h1] at c1; rw [h2] at c2; rw [h3] at c3
  have u1 : inInt .i64 (l.credits + l.back) := ⟨by omega, by omega⟩
  have u2 : inInt .i64 (l.credits + l.back + (↑(l.queue.map Record.e).length : Int)) := ⟨by simp only [List.length_map]; omega, by simp only [List.length_map]; omega⟩
  cases h4 : (l.credits + l.back + (l.queue.length : Int) == l.cap) with
  | false => exact qvF ⟨c1, rfl, c2, rfl, c3, rfl, u1, u2, by rw [List.length_map]; simpa using h4, trivial⟩
  | true =>
  have v4 : (l.credits + l.back + (↑(l.queue.map Record.e).length : Int) != l.cap) = false := by rw [List.length_map]; simpa using h4
  cases h5 : inR l.sent 0 1000000000 with
  | false => rw [h5] at c4; exact qvG ⟨c1, rfl, c2, rfl, c3, rfl, u1, u2, v4, c4, rfl, trivial⟩
  | true =>
  have k5 := h5
  simp only [inR, decide_eq_true_eq] at k5
  rw [h5] at c4
  by_cases h6 : l.got < 0
  · rw [dF (show ¬ 0 ≤ l.got by omega)]
    exact qvH ⟨c1, rfl, c2, rfl, c3, rfl, u1, u2, v4, c4, rfl, dT h6, trivial⟩
  · rw [dT (show 0 ≤ l.got by omega)]
    have u3 : inInt .i64 (l.sent - l.got) := ⟨by omega, by omega⟩
    · by_cases h7 : l.got = l.sent - (l.queue.length : Int)
      · rw [show (l.got == l.sent - (l.queue.length : Int)) = true from by simpa using h7]
        exact qvJ ⟨c1, rfl, c2, rfl, c3, rfl, u1, u2, v4, c4, rfl, dF h6, u3, by rw [List.length_map]; simp; omega, c5, trivial⟩
      · rw [show (l.got == l.sent - (l.queue.length : Int)) = false from by simpa using h7]
        exact qvI ⟨c1, rfl, c2, rfl, c3, rfl, u1, u2, v4, c4, rfl, dF h6, u3, by rw [List.length_map]; simp; omega, trivial⟩
theorem qAx (l : Link) (hl : l.sz ≤ 8388608) : Rt 188 [.agg l.e] [.one (B (qbM l))] := by
  have hq : l.queue.length ≤ 8388608 := hl
  have lp := qaQ (P := Tryz.prog) (c := (qaa Tryz.f188 0)) l.queue (fun r => !qaG r) (fun i => qbA l.cap (l.queue.map Record.e) l.credits l.back l.sent l.got i) (X := fun _ _ => qiF false) qao (qaf 0)
    (fun i a ha h => qvs ⟨lt1 (lt_of ha), lt0, lt2 (lt_of ha), qac Record.e ha, qgz a, h, up1 (lt_of ha) hq, trivial⟩)
    (fun i a ha h => qvr ⟨lt1 (lt_of ha), lt0, lt2 (lt_of ha), qac Record.e ha, qgz a, h, trivial⟩)
    (qvt ⟨ge1, trivial⟩)
  unfold qbM
  rcases lp with ⟨_, _, h0, lp⟩ | ⟨i, a, _, _, _, _, h0, lp⟩
  case inr =>
    rw [h0, Bool.not_true, Bool.and_false]
    exact qvu ⟨lp, trivial⟩
  rw [h0, Bool.not_false, Bool.and_true]
  have c1 := qaW l.cap 1 4
  have c2 := qaW l.credits 0 l.cap
  have c3 := qaW l.back 0 l.cap
  have c4 := qaW l.sent 0 1000000000
  cases h1 : inR l.cap 1 4 with
  | false => rw [h1] at c1; exact qvB ⟨lp, c1, rfl, trivial⟩
  | true =>
  cases h2 : inR l.credits 0 l.cap with
  | false => rw [h1] at c1; rw [h2] at c2; exact qvA ⟨lp, c1, rfl, c2, rfl, trivial⟩
  | true =>
  cases h3 : inR l.back 0 l.cap with
  | false => rw [h1] at c1; rw [h2] at c2; rw [h3] at c3; exact qvz ⟨lp, c1, rfl, c2, rfl, c3, rfl, trivial⟩
  | true =>
  have k1 := h1
  have k2 := h2
  have k3 := h3
  simp only [inR, decide_eq_true_eq] at k1 k2 k3
  rw [h1] at c1; rw [h2] at c2; rw [h3] at c3
  have u1 : inInt .i64 (l.credits + l.back) := ⟨by omega, by omega⟩
  have u2 : inInt .i64 (l.credits + l.back + (↑(l.queue.map Record.e).length : Int)) := ⟨by simp only [List.length_map]; omega, by simp only [List.length_map]; omega⟩
  cases h4 : (l.credits + l.back + (l.queue.length : Int) == l.cap) with
  | false => exact qvy ⟨lp, c1, rfl, c2, rfl, c3, rfl, u1, u2, by rw [List.length_map]; exact h4, trivial⟩
  | true =>
  have v4 : (l.credits + l.back + (↑(l.queue.map Record.e).length : Int) == l.cap) = true := by rw [List.length_map]; exact h4
  cases h5 : inR l.sent 0 1000000000 with
  | false => rw [h5] at c4; exact qvx ⟨lp, c1, rfl, c2, rfl, c3, rfl, u1, u2, v4, c4, rfl, trivial⟩
  | true =>
  have k5 := h5
  simp only [inR, decide_eq_true_eq] at k5
  rw [h5] at c4
  have u3 : inInt .i64 (l.sent - (↑(l.queue.map Record.e).length : Int)) := ⟨by simp only [List.length_map]; omega, by simp only [List.length_map]; omega⟩
  cases h7 : (l.got == l.sent - (l.queue.length : Int)) with
  | false =>
    rw [Bool.and_false]
    exact qvw ⟨lp, c1, rfl, c2, rfl, c3, rfl, u1, u2, v4, c4, rfl, u3, by rw [List.length_map]; exact h7, trivial⟩
  | true =>
    rw [Bool.and_true]
    exact qvv ⟨lp, c1, rfl, c2, rfl, c3, rfl, u1, u2, v4, c4, rfl, u3, by rw [List.length_map]; exact h7, trivial⟩
end Go.Proofs.YtdanpadojemjeaaGreat
namespace Go.Proofs.YtdanpadojemjeaaGreat
open Go.Sx Go.RowKit
def inBad (xs : List Record) (i : Nat) (r : Record) : Bool :=
  r.op != 0 || r.stamp.turn != 0 || (match i with | 0 => false | j + 1 => match xs[j]? with | some q => decide (q.stamp.epoch > r.stamp.epoch) | none => false)
theorem qmd {xs : List Record} {i : Nat} {a : Record} (ha : xs[i]? = some a) (h : inBad xs i a = true) :
    (a.op != 0) = true ∨ ((a.op != 0) = false ∧ (a.stamp.turn != 0) = true) ∨ ((a.op != 0) = false ∧ (a.stamp.turn != 0) = false ∧ ∃ j b, i = j + 1 ∧ xs[j]? = some b ∧ decide (b.stamp.epoch > a.stamp.epoch) = true) := by
  unfold inBad at h
  cases h1 : (a.op != 0) with
  | true => exact .inl rfl
  | false =>
  cases h2 : (a.stamp.turn != 0) with
  | true => exact .inr (.inl ⟨rfl, rfl⟩)
  | false =>
  rw [h1, h2, Bool.false_or, Bool.false_or] at h
  cases i with
  | zero => cases h
  | succ j =>
    have hj : j < xs.length := by have := lt_of ha; omega
    obtain ⟨b, hb⟩ := qae hj
    simp only [hb] at h
    exact .inr (.inr ⟨rfl, rfl, j, b, rfl, hb, h⟩)
theorem qme {xs : List Record} {i : Nat} {a : Record} (ha : xs[i]? = some a) (h : inBad xs i a = false) :
    (a.op != 0) = false ∧ (a.stamp.turn != 0) = false ∧ (i = 0 ∨ ∃ j b, i = j + 1 ∧ xs[j]? = some b ∧ decide (b.stamp.epoch > a.stamp.epoch) = false) := by
  unfold inBad at h
  rw [Bool.or_eq_false_iff, Bool.or_eq_false_iff] at h
  obtain ⟨⟨h1, h2⟩, h⟩ := h
  refine ⟨h1, h2, ?_⟩
  cases i with
  | zero => exact .inl rfl
  | succ j =>
    have hj : j < xs.length := by have := lt_of ha; omega
    obtain ⟨b, hb⟩ := qae hj
    simp only [hb] at h
    exact .inr ⟨j, b, rfl, hb, h⟩
theorem qgC {α : Type} (f : α → List D) {xs : List α} {j : Nat} {b : α} (h : xs[j]? = some b) : (xs.map f)[(((j + 1 : Nat) : Int) - 1).toNat]? = some (f b) := by
  rw [show (((j + 1 : Nat) : Int) - 1) = (j : Int) by omega]
  exact qac f h
theorem qgD {α β : Type} {f : α → β} {xs : List α} {j : Nat} {b : α} (h : xs[j]? = some b) : (((j + 1 : Nat) : Int) - 1) < (↑(xs.map f).length : Int) := by
  have := lt_of h
  rw [List.length_map]; omega
def qdb (n : Int) : Bool := !inR n (-1000000) 1000000
def qbe (xs : List Done) (i : Nat) (d : Done) : Bool := !inR d.epoch 0 3 || (xs.take i).any (fun q => q.epoch == d.epoch)
theorem len4 {α β : Type} {f : α → β} {xs : List α} (h : (xs.length == 4) = true) : ((↑(xs.map f).length : Int) != 4) = false := by
  rw [List.length_map, eq_of_beq h]; rfl
theorem len4' {α β : Type} {f : α → β} {xs : List α} (h : (xs.length == 4) = false) : ((↑(xs.map f).length : Int) != 4) = true := by
  rw [List.length_map]
  have := ne_of_beq_false h
  simp only [bne_iff_ne, ne_eq]; omega
def qaN (g : Graph) (w : Worker) : Bool :=
  qaS g w.queue && (qaS g w.staged && (qaS g w.inputs && (qcC w.cells && ((w.sums.length == 4) && ((w.black.length == 4) && ((w.caps.length == 4) && (!anyI (inBad w.inputs) 0 w.inputs && (!(w.sums.any qdb) && !anyI (qbe w.dones) 0 w.dones))))))))
theorem Worker.staged_le {w : Worker} (h : w.sz ≤ 8388608) : w.staged.length ≤ 8388608 := by simp only [Worker.sz] at h; omega
theorem Worker.cells_le' {w : Worker} (h : w.sz ≤ 8388608) : w.cells.length ≤ 8388608 := by simp only [Worker.sz] at h; omega
theorem Worker.sums_le {w : Worker} (h : w.sz ≤ 8388608) : w.sums.length ≤ 8388608 := by simp only [Worker.sz] at h; omega
theorem Worker.dones_le' {w : Worker} (h : w.sz ≤ 8388608) : w.dones.length ≤ 8388608 := by simp only [Worker.sz] at h; omega
theorem qAy (w : Worker) (hl : w.inputs.length ≤ 8388608) :
    (anyI (inBad w.inputs) 0 w.inputs = false ∧ qam Tryz.prog (qaa Tryz.f187 0) (qbj (w.queue.map Record.e) (w.staged.map Record.e) (w.inputs.map Record.e) (w.cells.map Cell.e) (w.sums.map eI) (w.black.map eB) (w.caps.map eB) (w.dones.map Done.e) 0) (.exit 0) (qfk (w.queue.map Record.e) (w.staged.map Record.e) (w.inputs.map Record.e) (w.cells.map Cell.e) (w.sums.map eI) (w.black.map eB) (w.caps.map eB) (w.dones.map Done.e))) ∨
    (anyI (inBad w.inputs) 0 w.inputs = true ∧ qam Tryz.prog (qaa Tryz.f187 0) (qbj (w.queue.map Record.e) (w.staged.map Record.e) (w.inputs.map Record.e) (w.cells.map Cell.e) (w.sums.map eI) (w.black.map eB) (w.caps.map eB) (w.dones.map Done.e) 0) .ret (qfj false)) :=
  qcZ (P := Tryz.prog) (c := (qaa Tryz.f187 0)) w.inputs (inBad w.inputs) (fun i => qbj (w.queue.map Record.e) (w.staged.map Record.e) (w.inputs.map Record.e) (w.cells.map Cell.e) (w.sums.map eI) (w.black.map eB) (w.caps.map eB) (w.dones.map Done.e) i) qao (qaf 0)
    (fun i a ha h => by
      have hi := lt_of ha
      obtain ⟨h1, h2, rfl | ⟨j, b, rfl, hb, h3⟩⟩ := qme ha h
      · exact quN ⟨lt1 (lt_of ha), lt0, lt2 (lt_of ha), qac Record.e ha, h1, lt0, lt2 (lt_of ha), qac Record.e ha, h2, dF (by omega), up1 (lt_of ha) hl, trivial⟩
      · exact quM ⟨lt1 (lt_of ha), lt0, lt2 (lt_of ha), qac Record.e ha, h1, lt0, lt2 (lt_of ha), qac Record.e ha, h2, dT (by omega), ⟨by omega, by omega⟩, by omega, qgD hb, qgC Record.e hb, lt0, lt2 (lt_of ha), qac Record.e ha, h3, up1 (lt_of ha) hl, trivial⟩)
    (fun i a ha h => by
      have hi := lt_of ha
      rcases qmd ha h with h1 | ⟨h1, h2⟩ | ⟨h1, h2, j, b, rfl, hb, h3⟩
      · exact quJ ⟨lt1 (lt_of ha), lt0, lt2 (lt_of ha), qac Record.e ha, h1, trivial⟩
      · exact quK ⟨lt1 (lt_of ha), lt0, lt2 (lt_of ha), qac Record.e ha, h1, lt0, lt2 (lt_of ha), qac Record.e ha, h2, trivial⟩
      · exact quL ⟨lt1 (lt_of ha), lt0, lt2 (lt_of ha), qac Record.e ha, h1, lt0, lt2 (lt_of ha), qac Record.e ha, h2, dT (by omega), ⟨by omega, by omega⟩, by omega, qgD hb, qgC Record.e hb, lt0, lt2 (lt_of ha), qac Record.e ha, h3, trivial⟩)
    (quO ⟨ge1, trivial⟩)
theorem qAz (w : Worker) (hl : w.dones.length ≤ 8388608) :
    (anyI (qbe w.dones) 0 w.dones = false ∧ qam Tryz.prog (qaa Tryz.f187 2) (qcv (w.queue.map Record.e) (w.staged.map Record.e) (w.inputs.map Record.e) (w.cells.map Cell.e) (w.sums.map eI) (w.black.map eB) (w.caps.map eB) (w.dones.map Done.e) 0) (.exit 4) qiB) ∨
    (anyI (qbe w.dones) 0 w.dones = true ∧ qam Tryz.prog (qaa Tryz.f187 2) (qcv (w.queue.map Record.e) (w.staged.map Record.e) (w.inputs.map Record.e) (w.cells.map Cell.e) (w.sums.map eI) (w.black.map eB) (w.caps.map eB) (w.dones.map Done.e) 0) .ret (qgr false)) := by
  have inner : ∀ (i : Nat) (a : Done), w.dones[i]? = some a →
      (((w.dones.take i).any (fun q => q.epoch == a.epoch)) = false ∧ qam Tryz.prog (qaa Tryz.f187 3) (qcN (w.queue.map Record.e) (w.staged.map Record.e) (w.inputs.map Record.e) (w.cells.map Cell.e) (w.sums.map eI) (w.black.map eB) (w.caps.map eB) (w.dones.map Done.e) i 0) (.exit 6) (qiA (w.queue.map Record.e) (w.staged.map Record.e) (w.inputs.map Record.e) (w.cells.map Cell.e) (w.sums.map eI) (w.black.map eB) (w.caps.map eB) (w.dones.map Done.e) i)) ∨
      (((w.dones.take i).any (fun q => q.epoch == a.epoch)) = true ∧ qam Tryz.prog (qaa Tryz.f187 3) (qcN (w.queue.map Record.e) (w.staged.map Record.e) (w.inputs.map Record.e) (w.cells.map Cell.e) (w.sums.map eI) (w.black.map eB) (w.caps.map eB) (w.dones.map Done.e) i 0) .ret (qgs false)) := by
    intro i a ha
    have hi := lt_of ha
    have hlen : (w.dones.take i).length = i := by rw [List.length_take]; omega
    have tk : ∀ {k : Nat} {b : Done}, (w.dones.take i)[k]? = some b → k < i ∧ w.dones[k]? = some b := fun {k b} h => by
      have hk := lt_of h
      rw [hlen] at hk
      rw [List.getElem?_take, if_pos hk] at h
      exact ⟨hk, h⟩
    have l := qaQ (P := Tryz.prog) (c := (qaa Tryz.f187 3)) (w.dones.take i) (fun q => q.epoch == a.epoch) (fun k => qcN (w.queue.map Record.e) (w.staged.map Record.e) (w.inputs.map Record.e) (w.cells.map Cell.e) (w.sums.map eI) (w.black.map eB) (w.caps.map eB) (w.dones.map Done.e) i k) (X := fun _ _ => qgs false) qao (qaf 6)
      (fun k b hb h => by
        obtain ⟨hk, hb⟩ := tk hb
        exact quW ⟨dT (by omega), lt0, lt2 (lt_of hb), qac Done.e hb, lt0, lt2 (lt_of ha), qac Done.e ha, h, up1 (lt_of hb) hl, trivial⟩)
      (fun k b hb h => by
        obtain ⟨hk, hb⟩ := tk hb
        exact quV ⟨dT (by omega), lt0, lt2 (lt_of hb), qac Done.e hb, lt0, lt2 (lt_of ha), qac Done.e ha, h, trivial⟩)
      (quX ⟨dF (by rw [hlen]; omega), trivial⟩)
    rcases l with ⟨_, _, h1, h2⟩ | ⟨_, _, _, _, _, _, h1, h2⟩
    · exact .inl ⟨h1, h2⟩
    · exact .inr ⟨h1, h2⟩
  exact qcZ (P := Tryz.prog) (c := (qaa Tryz.f187 2)) w.dones (qbe w.dones) (fun i => qcv (w.queue.map Record.e) (w.staged.map Record.e) (w.inputs.map Record.e) (w.cells.map Cell.e) (w.sums.map eI) (w.black.map eB) (w.caps.map eB) (w.dones.map Done.e) i) qao (qaf 4)
    (fun i a ha h => by
      simp only [qbe, Bool.or_eq_false_iff, Bool.not_eq_false'] at h
      rcases inner i a ha with ⟨e, l⟩ | ⟨e, l⟩
      · exact quZ ⟨lt1 (lt_of ha), lt0, lt2 (lt_of ha), qac Done.e ha, qaZ _ _ _ true h.1, rfl, l, up1 (lt_of ha) hl, trivial⟩
      · rw [h.2] at e; cases e)
    (fun i a ha h => by
      cases h1 : inR a.epoch 0 3 with
      | false => exact quU ⟨lt1 (lt_of ha), lt0, lt2 (lt_of ha), qac Done.e ha, qaZ _ _ _ false h1, rfl, trivial⟩
      | true =>
        simp only [qbe, h1, Bool.not_true, Bool.false_or] at h
        rcases inner i a ha with ⟨e, l⟩ | ⟨e, l⟩
        · rw [h] at e; cases e
        · exact quY ⟨lt1 (lt_of ha), lt0, lt2 (lt_of ha), qac Done.e ha, qaZ _ _ _ true h1, rfl, l, trivial⟩)
    (qu0 ⟨ge1, trivial⟩)
theorem qmf (g : Graph) (w : Worker) (hg : g.sz ≤ 8388608) (hw : w.sz ≤ 8388608) : Rt 187 [.agg g.e, .agg w.e] [.one (B (qaN g w))] := by
  unfold qaN
  cases h1 : qaS g w.queue with
  | false => exact quC ⟨qdU g _ _ h1 hg (Worker.queue_le hw), rfl, trivial⟩
  | true =>
  have c1 := qdU g _ _ h1 hg (Worker.queue_le hw)
  cases h2 : qaS g w.staged with
  | false => exact quD ⟨c1, rfl, qdU g _ _ h2 hg (Worker.staged_le hw), rfl, trivial⟩
  | true =>
  have c2 := qdU g _ _ h2 hg (Worker.staged_le hw)
  cases h3 : qaS g w.inputs with
  | false => exact quE ⟨c1, rfl, c2, rfl, qdU g _ _ h3 hg (Worker.inputs_le hw), rfl, trivial⟩
  | true =>
  have c3 := qdU g _ _ h3 hg (Worker.inputs_le hw)
  cases h4 : qcC w.cells with
  | false => exact quF ⟨c1, rfl, c2, rfl, c3, rfl, qma _ _ h4 (Worker.cells_le' hw), rfl, trivial⟩
  | true =>
  have c4 := qma _ _ h4 (Worker.cells_le' hw)
  cases h5 : (w.sums.length == 4) with
  | false => exact quG ⟨c1, rfl, c2, rfl, c3, rfl, c4, rfl, len4' h5, trivial⟩
  | true =>
  cases h6 : (w.black.length == 4) with
  | false => exact quH ⟨c1, rfl, c2, rfl, c3, rfl, c4, rfl, len4 h5, len4' h6, trivial⟩
  | true =>
  cases h7 : (w.caps.length == 4) with
  | false => exact quI ⟨c1, rfl, c2, rfl, c3, rfl, c4, rfl, len4 h5, len4 h6, len4' h7, trivial⟩
  | true =>
  have hs4 : w.sums.length = 4 := eq_of_beq h5
  rcases qAy w (Worker.inputs_le hw) with ⟨h8, l8⟩ | ⟨h8, l8⟩
  case inr => rw [h8]; exact quP ⟨c1, rfl, c2, rfl, c3, rfl, c4, rfl, len4 h5, len4 h6, len4 h7, l8, trivial⟩
  have l9 := qaQ (P := Tryz.prog) (c := (qaa Tryz.f187 1)) w.sums qdb (fun i => qc6 (w.queue.map Record.e) (w.staged.map Record.e) (w.inputs.map Record.e) (w.cells.map Cell.e) (w.sums.map eI) (w.black.map eB) (w.caps.map eB) (w.dones.map Done.e) i) (X := fun _ _ => qiy false) qao (qaf 2)
    (fun i a ha h => quR ⟨dT (by have := lt_of ha; omega), lt0, lt2 (lt_of ha), qac eI ha, qaZ _ _ _ true (by simpa [qdb] using h), rfl, up1 (lt_of ha) (Worker.sums_le hw), trivial⟩)
    (fun i a ha h => quQ ⟨dT (by have := lt_of ha; omega), lt0, lt2 (lt_of ha), qac eI ha, qaZ _ _ _ false (by simpa [qdb] using h), rfl, trivial⟩)
    (quS ⟨dF (by omega), trivial⟩)
  rw [h8]
  rcases l9 with ⟨_, _, h9, l9⟩ | ⟨_, _, _, _, _, _, h9, l9⟩
  case inr => rw [h9]; exact quT ⟨c1, rfl, c2, rfl, c3, rfl, c4, rfl, len4 h5, len4 h6, len4 h7, l8, l9, trivial⟩
  rw [h9]
  rcases qAz w (Worker.dones_le' hw) with ⟨h10, l10⟩ | ⟨h10, l10⟩
  · rw [h10]; exact qu2 ⟨c1, rfl, c2, rfl, c3, rfl, c4, rfl, len4 h5, len4 h6, len4 h7, l8, l9, l10, trivial⟩
  · rw [h10]; exact qu1 ⟨c1, rfl, c2, rfl, c3, rfl, c4, rfl, len4 h5, len4 h6, len4 h7, l8, l9, l10, trivial⟩
end Go.Proofs.YtdanpadojemjeaaGreat
namespace Go.Proofs.YtdanpadojemjeaaGreat
open Go.Sx Go.RowKit
theorem qAA (w : Worker) (hl : w.inputs.length ≤ 8388608) :
    (anyI (inBad w.inputs) 0 w.inputs = false ∧ qam Tryz.prog (qaa Tryz.f123 0) (qa5 (w.inputs.map Record.e) 0 (w.queue.map Record.e) (w.staged.map Record.e) (w.inputs.map Record.e) (w.cells.map Cell.e) (w.sums.map eI) (w.black.map eB) (w.caps.map eB) (w.dones.map Done.e)) (.exit 0) (qc7 (w.queue.map Record.e) (w.staged.map Record.e) (w.inputs.map Record.e) (w.cells.map Cell.e) (w.sums.map eI) (w.black.map eB) (w.caps.map eB) (w.dones.map Done.e))) ∨
    (anyI (inBad w.inputs) 0 w.inputs = true ∧ qam Tryz.prog (qaa Tryz.f123 0) (qa5 (w.inputs.map Record.e) 0 (w.queue.map Record.e) (w.staged.map Record.e) (w.inputs.map Record.e) (w.cells.map Cell.e) (w.sums.map eI) (w.black.map eB) (w.caps.map eB) (w.dones.map Done.e)) .ret (qfl false)) :=
  qcZ (P := Tryz.prog) (c := (qaa Tryz.f123 0)) w.inputs (inBad w.inputs) (fun i => qa5 (w.inputs.map Record.e) i (w.queue.map Record.e) (w.staged.map Record.e) (w.inputs.map Record.e) (w.cells.map Cell.e) (w.sums.map eI) (w.black.map eB) (w.caps.map eB) (w.dones.map Done.e)) qao (qaf 0)
    (fun i a ha h => by
      have hi := lt_of ha
      obtain ⟨h1, h2, rfl | ⟨j, b, rfl, hb, h3⟩⟩ := qme ha h
      · exact qvb ⟨lt1 (lt_of ha), lt0, lt2 (lt_of ha), qac Record.e ha, h1, h2, dF (by omega), up1 (lt_of ha) hl, trivial⟩
      · exact qva ⟨lt1 (lt_of ha), lt0, lt2 (lt_of ha), qac Record.e ha, h1, h2, dT (by omega), ⟨by omega, by omega⟩, by omega, qgD hb, qgC Record.e hb, h3, up1 (lt_of ha) hl, trivial⟩)
    (fun i a ha h => by
      have hi := lt_of ha
      rcases qmd ha h with h1 | ⟨h1, h2⟩ | ⟨h1, h2, j, b, rfl, hb, h3⟩
      · exact qu7 ⟨lt1 (lt_of ha), lt0, lt2 (lt_of ha), qac Record.e ha, h1, trivial⟩
      · exact qu8 ⟨lt1 (lt_of ha), lt0, lt2 (lt_of ha), qac Record.e ha, h1, h2, trivial⟩
      · exact qu9 ⟨lt1 (lt_of ha), lt0, lt2 (lt_of ha), qac Record.e ha, h1, h2, dT (by omega), ⟨by omega, by omega⟩, by omega, qgD hb, qgC Record.e hb, h3, trivial⟩)
    (qvc ⟨ge1, trivial⟩)
theorem qmg (xs : List Done) (i : Nat) (e : Int) (r : Bool) (h : (xs.take i).any (fun q => q.epoch == e) = r) (hl : xs.length ≤ 8388608) : Rt 126 [.one (.sl 2 ((xs.map Done.e).take i)), .one (I e)] [.one (B r)] := by
  have c := qlH (xs.take i) e (by rw [List.length_take]; omega)
  rw [List.map_take, h] at c
  exact c
theorem qAB (w : Worker) (hl : w.dones.length ≤ 8388608) :
    (anyI (qbe w.dones) 0 w.dones = false ∧ qam Tryz.prog (qaa Tryz.f123 2) (qcw (w.dones.map Done.e) 0 (w.queue.map Record.e) (w.staged.map Record.e) (w.inputs.map Record.e) (w.cells.map Cell.e) (w.sums.map eI) (w.black.map eB) (w.caps.map eB) (w.dones.map Done.e)) (.exit 4) qiE) ∨
    (anyI (qbe w.dones) 0 w.dones = true ∧ qam Tryz.prog (qaa Tryz.f123 2) (qcw (w.dones.map Done.e) 0 (w.queue.map Record.e) (w.staged.map Record.e) (w.inputs.map Record.e) (w.cells.map Cell.e) (w.sums.map eI) (w.black.map eB) (w.caps.map eB) (w.dones.map Done.e)) .ret (qgt false)) :=
  qcZ (P := Tryz.prog) (c := (qaa Tryz.f123 2)) w.dones (qbe w.dones) (fun i => qcw (w.dones.map Done.e) i (w.queue.map Record.e) (w.staged.map Record.e) (w.inputs.map Record.e) (w.cells.map Cell.e) (w.sums.map eI) (w.black.map eB) (w.caps.map eB) (w.dones.map Done.e)) qao (qaf 4)
    (fun i a ha h => by
      have hi := lt_of ha
      simp only [qbe, Bool.or_eq_false_iff, Bool.not_eq_false'] at h
      exact qvn ⟨lt1 (lt_of ha), lt0, lt2 (lt_of ha), qac Done.e ha, qaX _ _ _ true h.1, rfl, Int.le_refl 0, (lt0 : (0 : Int) ≤ (i : Int)), (show (i : Int) ≤ _ by rw [List.length_map]; omega), qmg w.dones i a.epoch false h.2 hl, rfl, up1 (lt_of ha) hl, trivial⟩)
    (fun i a ha h => by
      have hi := lt_of ha
      cases h1 : inR a.epoch 0 3 with
      | false => exact qvl ⟨lt1 (lt_of ha), lt0, lt2 (lt_of ha), qac Done.e ha, qaX _ _ _ false h1, rfl, trivial⟩
      | true =>
        simp only [qbe, h1, Bool.not_true, Bool.false_or] at h
        exact qvm ⟨lt1 (lt_of ha), lt0, lt2 (lt_of ha), qac Done.e ha, qaX _ _ _ true h1, rfl, Int.le_refl 0, (lt0 : (0 : Int) ≤ (i : Int)), (show (i : Int) ≤ _ by rw [List.length_map]; omega), qmg w.dones i a.epoch true h hl, rfl, trivial⟩)
    (qvo ⟨ge1, trivial⟩)
theorem qmh (g : Graph) (w : Worker) (hg : g.sz ≤ 8388608) (hw : w.sz ≤ 8388608) : Rt 123 [.agg g.e, .agg w.e] [.one (B (qaN g w))] := by
  unfold qaN
  cases h1 : qaS g w.queue with
  | false => exact qu3 ⟨qdV g _ _ h1 hg (Worker.queue_le hw), rfl, trivial⟩
  | true =>
  have c1 := qdV g _ _ h1 hg (Worker.queue_le hw)
  cases h2 : qaS g w.staged with
  | false => exact qu4 ⟨c1, rfl, qdV g _ _ h2 hg (Worker.staged_le hw), rfl, trivial⟩
  | true =>
  have c2 := qdV g _ _ h2 hg (Worker.staged_le hw)
  cases h3 : qaS g w.inputs with
  | false => exact qu5 ⟨c1, rfl, c2, rfl, qdV g _ _ h3 hg (Worker.inputs_le hw), rfl, trivial⟩
  | true =>
  have c3 := qdV g _ _ h3 hg (Worker.inputs_le hw)
  cases h4 : qcC w.cells with
  | false => exact qu6 ⟨c1, rfl, c2, rfl, c3, rfl, qmb _ _ h4 (Worker.cells_le' hw), rfl, trivial⟩
  | true =>
  have c4 := qmb _ _ h4 (Worker.cells_le' hw)
  rcases qAA w (Worker.inputs_le hw) with ⟨h8, l8⟩ | ⟨h8, l8⟩
  case inr =>
    rw [h8]
    simp only [Bool.not_true, Bool.false_and, Bool.and_false]
    exact qvd ⟨c1, rfl, c2, rfl, c3, rfl, c4, rfl, l8, trivial⟩
  cases h5 : (w.sums.length == 4) with
  | false => exact qve ⟨c1, rfl, c2, rfl, c3, rfl, c4, rfl, l8, len4' h5, trivial⟩
  | true =>
  cases h6 : (w.black.length == 4) with
  | false => exact qvf ⟨c1, rfl, c2, rfl, c3, rfl, c4, rfl, l8, len4 h5, len4' h6, trivial⟩
  | true =>
  cases h7 : (w.caps.length == 4) with
  | false => exact qvg ⟨c1, rfl, c2, rfl, c3, rfl, c4, rfl, l8, len4 h5, len4 h6, len4' h7, trivial⟩
  | true =>
  have l9 := qaQ (P := Tryz.prog) (c := (qaa Tryz.f123 1)) w.sums qdb (fun i => qc8 (w.queue.map Record.e) (w.staged.map Record.e) (w.inputs.map Record.e) (w.cells.map Cell.e) (w.sums.map eI) (w.black.map eB) (w.caps.map eB) (w.dones.map Done.e) i) (X := fun _ _ => qiC false) qao (qaf 2)
    (fun i a ha h => qvi ⟨lt1 (lt_of ha), lt0, lt2 (lt_of ha), qac eI ha, qaX _ _ _ true (by simpa [qdb] using h), rfl, up1 (lt_of ha) (Worker.sums_le hw), trivial⟩)
    (fun i a ha h => qvh ⟨lt1 (lt_of ha), lt0, lt2 (lt_of ha), qac eI ha, qaX _ _ _ false (by simpa [qdb] using h), rfl, trivial⟩)
    (qvj ⟨ge1, trivial⟩)
  rw [h8]
  rcases l9 with ⟨_, _, h9, l9⟩ | ⟨_, _, _, _, _, _, h9, l9⟩
  case inr => rw [h9]; exact qvk ⟨c1, rfl, c2, rfl, c3, rfl, c4, rfl, l8, len4 h5, len4 h6, len4 h7, l9, trivial⟩
  rw [h9]
  rcases qAB w (Worker.dones_le' hw) with ⟨h10, l10⟩ | ⟨h10, l10⟩
  · rw [h10]; exact qvq ⟨c1, rfl, c2, rfl, c3, rfl, c4, rfl, l8, len4 h5, len4 h6, len4 h7, l9, l10, trivial⟩
  · rw [h10]; exact qvp ⟨c1, rfl, c2, rfl, c3, rfl, c4, rfl, l8, len4 h5, len4 h6, len4 h7, l9, l10, trivial⟩
end Go.Proofs.YtdanpadojemjeaaGreat
