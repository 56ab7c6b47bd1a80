/- ClusterOk, SafeCluster: what program and reference compute; the law SafeCluster answers true. -/
import Derived.Test.YtialmplmfcahpaaGreatP21
import Derived.Test.YtialmplmfcahpaaGreatP18
set_option linter.unusedVariables false
set_option linter.unusedSimpArgs false
namespace Go.Proofs.YtialmplmfcahpaaGreat
open Go.Sx Go.RowKit
def pairBad (p : Cell × Cell) : Bool := decide (qdX p.1 p.2 ≥ 0)
def cellsOk (xs : List Cell) : Bool := !((xs.zip (xs.drop 1)).any pairBad)
theorem pair_at {xs : List Cell} {i : Nat} {p : Cell × Cell} (h : (xs.zip (xs.drop 1))[i]? = some p) : xs[i]? = some p.1 ∧ xs[i + 1]? = some p.2 := by
  rw [List.getElem?_zip_eq_some] at h
  obtain ⟨h1, h2⟩ := h
  rw [List.getElem?_drop, Nat.add_comm] at h2
  exact ⟨h1, h2⟩
theorem spec_CellsOk_ret (xs : List Cell) (hl : xs.length ≤ 1048576) : Ret Tryz.prog 264 [.one (.sl 4 (xs.map Cell.e))] [.one (B (cellsOk xs))] := by
  have e0 : ∀ i : Nat, (((i : Int) + 1) - 1).toNat = i := fun i => by omega
  have e1 : ∀ i : Nat, (((i : Int) + 1)).toNat = i + 1 := fun i => by omega
  have hz : (xs.zip (xs.drop 1)).length = xs.length - 1 := by simp
  have l := qbB (P := Tryz.prog) (c := (qaa Tryz.f264 0)) (xs.zip (xs.drop 1)) pairBad (fun i => spec_CellsOk_L0 (xs.map Cell.e) ((i : Int) + 1)) (X := fun _ _ => spec_CellsOk_X0 false) qaD (qah 0)
    (fun i a ha h => by
      obtain ⟨h1, h2⟩ := pair_at ha
      have hi := lt_of h2
      refine tr_to (spec_CellsOk_L0 (xs.map Cell.e)) (spec_CellsOk_L0_s1 _ _ _ _ _ _ _ _ _ _ _ ⟨dT (by simp only [List.length_map]; omega), ⟨by omega, by omega⟩, by omega, by simp only [List.length_map]; omega, by rw [e0, List.getElem?_map, h1]; rfl, by omega, by simp only [List.length_map]; omega, by rw [e1, List.getElem?_map, h2]; rfl, qlM a.1 a.2, h, ⟨by omega, by omega⟩, trivial⟩) (by omega))
    (fun i a ha h => by
      obtain ⟨h1, h2⟩ := pair_at ha
      have hi := lt_of h2
      exact spec_CellsOk_L0_x0 _ _ _ _ _ _ _ _ _ _ _ ⟨dT (by simp only [List.length_map]; omega), ⟨by omega, by omega⟩, by omega, by simp only [List.length_map]; omega, by rw [e0, List.getElem?_map, h1]; rfl, by omega, by simp only [List.length_map]; omega, by rw [e1, List.getElem?_map, h2]; rfl, qlM a.1 a.2, h, trivial⟩)
    (spec_CellsOk_L0_x2 _ _ ⟨dF (by rw [hz]; simp only [List.length_map]; omega), trivial⟩)
  unfold cellsOk
  rcases l with ⟨_, _, h1, h2⟩ | ⟨i, a, _, _, _, _, h1, h2⟩
  · rw [h1]; exact spec_CellsOk_p1 _ ⟨h2, trivial⟩
  · rw [h1]; exact spec_CellsOk_p0 _ _ ⟨h2, trivial⟩
theorem spec_CellsOk_ret' (xs : List Cell) (r : Bool) (h : cellsOk xs = r) (hl : xs.length ≤ 1048576) : Ret Tryz.prog 264 [.one (.sl 4 (xs.map Cell.e))] [.one (B r)] := h ▸ spec_CellsOk_ret xs hl
theorem impl_CellsOk_ret (xs : List Cell) (hl : xs.length ≤ 1048576) : Ret Tryz.prog 267 [.one (.sl 4 (xs.map Cell.e))] [.one (B (cellsOk xs))] := by
  have e0 : ∀ i : Nat, (((i : Int) + 1) - 1).toNat = i := fun i => by omega
  have e1 : ∀ i : Nat, (((i : Int) + 1)).toNat = i + 1 := fun i => by omega
  have hz : (xs.zip (xs.drop 1)).length = xs.length - 1 := by simp
  have l := qbB (P := Tryz.prog) (c := (qaa Tryz.f267 0)) (xs.zip (xs.drop 1)) pairBad (fun i => impl_CellsOk_L0 (xs.map Cell.e) ((i : Int) + 1)) (X := fun _ _ => impl_CellsOk_X0 false) qaD (qah 0)
    (fun i a ha h => by
      obtain ⟨h1, h2⟩ := pair_at ha
      have hi := lt_of h2
      refine tr_to (impl_CellsOk_L0 (xs.map Cell.e)) (impl_CellsOk_L0_s1 _ _ _ _ _ _ _ _ _ _ _ ⟨dT (by simp only [List.length_map]; omega), ⟨by omega, by omega⟩, by omega, by simp only [List.length_map]; omega, by rw [e0, List.getElem?_map, h1]; rfl, by omega, by simp only [List.length_map]; omega, by rw [e1, List.getElem?_map, h2]; rfl, qlL a.1 a.2, h, ⟨by omega, by omega⟩, trivial⟩) (by omega))
    (fun i a ha h => by
      obtain ⟨h1, h2⟩ := pair_at ha
      have hi := lt_of h2
      exact impl_CellsOk_L0_x0 _ _ _ _ _ _ _ _ _ _ _ ⟨dT (by simp only [List.length_map]; omega), ⟨by omega, by omega⟩, by omega, by simp only [List.length_map]; omega, by rw [e0, List.getElem?_map, h1]; rfl, by omega, by simp only [List.length_map]; omega, by rw [e1, List.getElem?_map, h2]; rfl, qlL a.1 a.2, h, trivial⟩)
    (impl_CellsOk_L0_x2 _ _ ⟨dF (by rw [hz]; simp only [List.length_map]; omega), trivial⟩)
  unfold cellsOk
  rcases l with ⟨_, _, h1, h2⟩ | ⟨i, a, _, _, _, _, h1, h2⟩
  · rw [h1]; exact impl_CellsOk_p1 _ ⟨h2, trivial⟩
  · rw [h1]; exact impl_CellsOk_p0 _ _ ⟨h2, trivial⟩
theorem impl_CellsOk_ret' (xs : List Cell) (r : Bool) (h : cellsOk xs = r) (hl : xs.length ≤ 1048576) : Ret Tryz.prog 267 [.one (.sl 4 (xs.map Cell.e))] [.one (B r)] := h ▸ impl_CellsOk_ret xs hl
def recBad (g : Graph) (r : Record) : Bool := !qaR r || decide (r.op ≥ (g.nodes.length : Int))
def recsOk (g : Graph) (xs : List Record) : Bool := !(xs.any (recBad g))
theorem recordOk_op {r : Record} (h : qaR r = true) : 0 ≤ r.op := by
  simp only [qaR, Bool.and_eq_true, inR, decide_eq_true_eq] at h
  omega
theorem spec_l12Records_ret (g : Graph) (xs : List Record) (hl : xs.length ≤ 1048576) : Ret Tryz.prog 175 [.agg g.e, .one (.sl 5 (xs.map Record.e))] [.one (B (recsOk g xs))] := by
  have l := qbB (P := Tryz.prog) (c := (qaa Tryz.f175 0)) xs (recBad g) (fun i => spec_l12Records_L0 (g.nodes.map Node.e) g.workers g.cap (xs.map Record.e) i) (X := fun _ _ => spec_l12Records_X0 false) qaD (qah 0)
    (fun i a ha h => by
      simp only [recBad, Bool.or_eq_false_iff, Bool.not_eq_false'] at h
      have c := qms a
      rw [h.1] at c
      exact spec_l12Records_L0_s2 _ _ _ _ _ _ _ _ _ _ _ _ _ _ _ _ ⟨lt1 (lt_of ha), lt0, lt2 (lt_of ha), qae Record.e ha, c, rfl, lt0, lt2 (lt_of ha), qae Record.e ha, by rw [List.length_map]; exact h.2, up1 (lt_of ha) hl, trivial⟩)
    (fun i a ha h => by
      have c := qms a
      cases hr : qaR a with
      | false =>
        rw [hr] at c
        exact spec_l12Records_L0_x0 _ _ _ _ _ _ _ _ _ _ _ ⟨lt1 (lt_of ha), lt0, lt2 (lt_of ha), qae Record.e ha, c, rfl, trivial⟩
      | true =>
        rw [hr] at c
        simp only [recBad, hr, Bool.not_true, Bool.false_or] at h
        exact spec_l12Records_L0_x1 _ _ _ _ _ _ _ _ _ _ _ _ _ _ _ _ ⟨lt1 (lt_of ha), lt0, lt2 (lt_of ha), qae Record.e ha, c, rfl, lt0, lt2 (lt_of ha), qae Record.e ha, by rw [List.length_map]; exact h, trivial⟩)
    (spec_l12Records_L0_x3 _ _ _ _ _ ⟨ge1, trivial⟩)
  unfold recsOk
  rcases l with ⟨_, _, h1, h2⟩ | ⟨i, a, _, _, _, _, h1, h2⟩
  · rw [h1]; exact spec_l12Records_p1 _ _ _ _ ⟨h2, trivial⟩
  · rw [h1]; exact spec_l12Records_p0 _ _ _ _ _ ⟨h2, trivial⟩
theorem isNode_eq {g : Graph} {r : Record} (h : qaR r = true) : (qaS g r.op).isSome = !(decide (r.op ≥ (g.nodes.length : Int))) := by
  have h0 := recordOk_op h
  unfold qaS
  rw [if_pos h0]
  by_cases hc : r.op ≥ (g.nodes.length : Int)
  · rw [dT hc, List.getElem?_eq_none (by omega)]; rfl
  · rw [dF hc, List.getElem?_eq_getElem (by omega)]; rfl
theorem impl_opsOk_ret (g : Graph) (xs : List Record) (hg : g.sz ≤ 1048576) (hl : xs.length ≤ 1048576) : Ret Tryz.prog 184 [.agg g.e, .one (.sl 5 (xs.map Record.e))] [.one (B (recsOk g xs))] := by
  have l := qbB (P := Tryz.prog) (c := (qaa Tryz.f184 0)) xs (recBad g) (fun i => impl_opsOk_L0 (xs.map Record.e) i (g.nodes.map Node.e) g.workers g.cap) (X := fun _ _ => impl_opsOk_X0 false) qaD (qah 0)
    (fun i a ha h => by
      simp only [recBad, Bool.or_eq_false_iff, Bool.not_eq_false'] at h
      have c := qjB a
      rw [h.1] at c
      exact impl_opsOk_L0_s2 _ _ _ _ _ _ _ _ _ _ _ _ ⟨lt1 (lt_of ha), lt0, lt2 (lt_of ha), qae Record.e ha, c, rfl, qeO g a.op true (by rw [isNode_eq h.1, h.2]; rfl) hg, rfl, up1 (lt_of ha) hl, trivial⟩)
    (fun i a ha h => by
      have c := qjB a
      cases hr : qaR a with
      | false =>
        rw [hr] at c
        exact impl_opsOk_L0_x0 _ _ _ _ _ _ _ _ _ _ _ ⟨lt1 (lt_of ha), lt0, lt2 (lt_of ha), qae Record.e ha, c, rfl, trivial⟩
      | true =>
        rw [hr] at c
        simp only [recBad, hr, Bool.not_true, Bool.false_or] at h
        exact impl_opsOk_L0_x1 _ _ _ _ _ _ _ _ _ _ _ _ ⟨lt1 (lt_of ha), lt0, lt2 (lt_of ha), qae Record.e ha, c, rfl, qeO g a.op false (by rw [isNode_eq hr, h]; rfl) hg, rfl, trivial⟩)
    (impl_opsOk_L0_x3 _ _ _ _ _ ⟨ge1, trivial⟩)
  unfold recsOk
  rcases l with ⟨_, _, h1, h2⟩ | ⟨i, a, _, _, _, _, h1, h2⟩
  · rw [h1]; exact impl_opsOk_p1 _ _ _ _ ⟨h2, trivial⟩
  · rw [h1]; exact impl_opsOk_p0 _ _ _ _ _ ⟨h2, trivial⟩
theorem recs_spec (g : Graph) (xs : List Record) (r : Bool) (h : recsOk g xs = r) (_ : g.sz ≤ 1048576) (hl : xs.length ≤ 1048576) : Ret Tryz.prog 175 [.agg g.e, .one (.sl 5 (xs.map Record.e))] [.one (B r)] := h ▸ spec_l12Records_ret g xs hl
theorem recs_impl (g : Graph) (xs : List Record) (r : Bool) (h : recsOk g xs = r) (hg : g.sz ≤ 1048576) (hl : xs.length ≤ 1048576) : Ret Tryz.prog 184 [.agg g.e, .one (.sl 5 (xs.map Record.e))] [.one (B r)] := h ▸ impl_opsOk_ret g xs hg hl
def linkOk (l : Link) : Bool :=
  inR l.cap 1 4 && inR l.credits 0 l.cap && inR l.back 0 l.cap && (l.credits + l.back + l.queue.length == l.cap) && inR l.sent 0 1000000000 && decide (0 ≤ l.got) && (l.got == l.sent - l.queue.length) && !(l.queue.any fun r => !qaR r)
theorem impl_allRecordsOk_ret (xs : List Record) (hl : xs.length ≤ 1048576) : Ret Tryz.prog 268 [.one (.sl 5 (xs.map Record.e))] [.one (B (!(xs.any fun r => !qaR r)))] := by
  have l := qbB (P := Tryz.prog) (c := (qaa Tryz.f268 0)) xs (fun r => !qaR r) (fun i => impl_allRecordsOk_L0 (xs.map Record.e) i) (X := fun _ _ => impl_allRecordsOk_X0 false) qaD (qah 0)
    (fun i a ha h => impl_allRecordsOk_L0_s1 _ _ _ _ _ _ _ _ ⟨lt1 (lt_of ha), lt0, lt2 (lt_of ha), qae Record.e ha, qjB a, h, up1 (lt_of ha) hl, trivial⟩)
    (fun i a ha h => impl_allRecordsOk_L0_x0 _ _ _ _ _ _ _ _ ⟨lt1 (lt_of ha), lt0, lt2 (lt_of ha), qae Record.e ha, qjB a, h, trivial⟩)
    (impl_allRecordsOk_L0_x2 _ _ ⟨ge1, trivial⟩)
  rcases l with ⟨_, _, h1, h2⟩ | ⟨i, a, _, _, _, _, h1, h2⟩
  · rw [h1]; exact impl_allRecordsOk_p1 _ ⟨h2, trivial⟩
  · rw [h1]; exact impl_allRecordsOk_p0 _ _ ⟨h2, trivial⟩
theorem impl_LinkOk_ret (l : Link) (hl : l.sz ≤ 1048576) (hgot : l.got ≤ 9223372036854775807) : Ret Tryz.prog 183 [.agg l.e] [.one (B (linkOk l))] := by
  have hq : l.queue.length ≤ 1048576 := hl
  have c1 := qbm l.cap 1 4
  have c2 := qbm l.credits 0 l.cap
  have c3 := qbm l.back 0 l.cap
  have c4 := qbm l.sent 0 1000000000
  have c5 := impl_allRecordsOk_ret l.queue hq
  unfold linkOk
  cases h1 : inR l.cap 1 4 with
  | false => rw [h1] at c1; exact impl_LinkOk_p0 _ _ _ _ _ _ _ ⟨c1, rfl, trivial⟩
  | true =>
  cases h2 : inR l.credits 0 l.cap with
  | false => rw [h1] at c1; rw [h2] at c2; exact impl_LinkOk_p1 _ _ _ _ _ _ _ _ ⟨c1, rfl, c2, rfl, trivial⟩
  | true =>
  cases h3 : inR l.back 0 l.cap with
  | false => rw [h1] at c1; rw [h2] at c2; rw [h3] at c3; exact impl_LinkOk_p2 _ _ _ _ _ _ _ _ _ ⟨c1, rfl, c2, rfl, c3, rfl, trivial⟩
  | true =>
  have k1 := h1
  have k2 := h2
  have k3 := h3
  simp only [inR, decide_eq_true_eq] at k1 k2 k3
  rw [h1] at c1; rw [h2] at c2; rw [h3] at c3
  have u1 : inInt .i64 (l.credits + l.back) := ⟨by omega, by omega⟩
  have u2 : inInt .i64 (l.credits + l.back + (↑(l.queue.map Record.e).length : Int)) := ⟨by simp only [List.length_map]; omega, by simp only [List.length_map]; omega⟩
  cases h4 : (l.credits + l.back + (l.queue.length : Int) == l.cap) with
  | false => exact impl_LinkOk_p3 _ _ _ _ _ _ _ _ _ ⟨c1, rfl, c2, rfl, c3, rfl, u1, u2, by rw [List.length_map]; simpa using h4, trivial⟩
  | true =>
  have v4 : (l.credits + l.back + (↑(l.queue.map Record.e).length : Int) != l.cap) = false := by rw [List.length_map]; simpa using h4
  cases h5 : inR l.sent 0 1000000000 with
  | false => rw [h5] at c4; exact impl_LinkOk_p4 _ _ _ _ _ _ _ _ _ _ ⟨c1, rfl, c2, rfl, c3, rfl, u1, u2, v4, c4, rfl, trivial⟩
  | true =>
  have k5 := h5
  simp only [inR, decide_eq_true_eq] at k5
  rw [h5] at c4
  by_cases h6 : l.got < 0
  · rw [dF (show ¬ 0 ≤ l.got by omega)]
    exact impl_LinkOk_p5 _ _ _ _ _ _ _ _ _ _ ⟨c1, rfl, c2, rfl, c3, rfl, u1, u2, v4, c4, rfl, dT h6, trivial⟩
  · rw [dT (show 0 ≤ l.got by omega)]
    have u3 : inInt .i64 (l.sent - l.got) := ⟨by omega, by omega⟩
    · by_cases h7 : l.got = l.sent - (l.queue.length : Int)
      · rw [show (l.got == l.sent - (l.queue.length : Int)) = true from by simpa using h7]
        exact impl_LinkOk_p7 _ _ _ _ _ _ _ _ _ _ _ ⟨c1, rfl, c2, rfl, c3, rfl, u1, u2, v4, c4, rfl, dF h6, u3, by rw [List.length_map]; simp; omega, c5, trivial⟩
      · rw [show (l.got == l.sent - (l.queue.length : Int)) = false from by simpa using h7]
        exact impl_LinkOk_p6 _ _ _ _ _ _ _ _ _ _ ⟨c1, rfl, c2, rfl, c3, rfl, u1, u2, v4, c4, rfl, dF h6, u3, by rw [List.length_map]; simp; omega, trivial⟩
theorem spec_LinkOk_ret (l : Link) (hl : l.sz ≤ 1048576) : Ret Tryz.prog 174 [.agg l.e] [.one (B (linkOk l))] := by
  have hq : l.queue.length ≤ 1048576 := hl
  have lp := qbB (P := Tryz.prog) (c := (qaa Tryz.f174 0)) l.queue (fun r => !qaR r) (fun i => spec_LinkOk_L0 l.cap (l.queue.map Record.e) l.credits l.back l.sent l.got i) (X := fun _ _ => spec_LinkOk_X0 false) qaD (qah 0)
    (fun i a ha h => spec_LinkOk_L0_s1 _ _ _ _ _ _ _ _ _ _ _ _ _ ⟨lt1 (lt_of ha), lt0, lt2 (lt_of ha), qae Record.e ha, qms a, h, up1 (lt_of ha) hq, trivial⟩)
    (fun i a ha h => spec_LinkOk_L0_x0 _ _ _ _ _ _ _ _ _ _ _ _ _ ⟨lt1 (lt_of ha), lt0, lt2 (lt_of ha), qae Record.e ha, qms a, h, trivial⟩)
    (spec_LinkOk_L0_x2 _ _ _ _ _ _ _ ⟨ge1, trivial⟩)
  unfold linkOk
  rcases lp with ⟨_, _, h0, lp⟩ | ⟨i, a, _, _, _, _, h0, lp⟩
  case inr =>
    rw [h0, Bool.not_true, Bool.and_false]
    exact spec_LinkOk_p0 _ _ _ _ _ _ _ ⟨lp, trivial⟩
  rw [h0, Bool.not_false, Bool.and_true]
  have c1 := qa2 l.cap 1 4
  have c2 := qa2 l.credits 0 l.cap
  have c3 := qa2 l.back 0 l.cap
  have c4 := qa2 l.sent 0 1000000000
  cases h1 : inR l.cap 1 4 with
  | false => rw [h1] at c1; exact spec_LinkOk_p7 _ _ _ _ _ _ _ ⟨lp, c1, rfl, trivial⟩
  | true =>
  cases h2 : inR l.credits 0 l.cap with
  | false => rw [h1] at c1; rw [h2] at c2; exact spec_LinkOk_p6 _ _ _ _ _ _ _ _ ⟨lp, c1, rfl, c2, rfl, trivial⟩
  | true =>
  cases h3 : inR l.back 0 l.cap with
  | false => rw [h1] at c1; rw [h2] at c2; rw [h3] at c3; exact spec_LinkOk_p5 _ _ _ _ _ _ _ _ _ ⟨lp, c1, rfl, c2, rfl, c3, rfl, trivial⟩
  | true =>
  have k1 := h1
  have k2 := h2
  have k3 := h3
  simp only [inR, decide_eq_true_eq] at k1 k2 k3
  rw [h1] at c1; rw [h2] at c2; rw [h3] at c3
  have u1 : inInt .i64 (l.credits + l.back) := ⟨by omega, by omega⟩
  have u2 : inInt .i64 (l.credits + l.back + (↑(l.queue.map Record.e).length : Int)) := ⟨by simp only [List.length_map]; omega, by simp only [List.length_map]; omega⟩
  cases h4 : (l.credits + l.back + (l.queue.length : Int) == l.cap) with
  | false => exact spec_LinkOk_p4 _ _ _ _ _ _ _ _ _ ⟨lp, c1, rfl, c2, rfl, c3, rfl, u1, u2, by rw [List.length_map]; exact h4, trivial⟩
  | true =>
  have v4 : (l.credits + l.back + (↑(l.queue.map Record.e).length : Int) == l.cap) = true := by rw [List.length_map]; exact h4
  cases h5 : inR l.sent 0 1000000000 with
  | false => rw [h5] at c4; exact spec_LinkOk_p3 _ _ _ _ _ _ _ _ _ _ ⟨lp, c1, rfl, c2, rfl, c3, rfl, u1, u2, v4, c4, rfl, trivial⟩
  | true =>
  have k5 := h5
  simp only [inR, decide_eq_true_eq] at k5
  rw [h5] at c4
  have u3 : inInt .i64 (l.sent - (↑(l.queue.map Record.e).length : Int)) := ⟨by simp only [List.length_map]; omega, by simp only [List.length_map]; omega⟩
  cases h7 : (l.got == l.sent - (l.queue.length : Int)) with
  | false =>
    rw [Bool.and_false]
    exact spec_LinkOk_p2 _ _ _ _ _ _ _ _ _ _ ⟨lp, c1, rfl, c2, rfl, c3, rfl, u1, u2, v4, c4, rfl, u3, by rw [List.length_map]; exact h7, trivial⟩
  | true =>
    rw [Bool.and_true]
    exact spec_LinkOk_p1 _ _ _ _ _ _ _ _ _ _ ⟨lp, c1, rfl, c2, rfl, c3, rfl, u1, u2, v4, c4, rfl, u3, by rw [List.length_map]; exact h7, trivial⟩
end Go.Proofs.YtialmplmfcahpaaGreat
