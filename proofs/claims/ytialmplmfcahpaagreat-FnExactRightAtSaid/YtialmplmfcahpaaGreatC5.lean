/- Comparisons of lists: what program and reference compute. -/
import Derived.Test.YtialmplmfcahpaaGreatC1
import Derived.Test.YtialmplmfcahpaaGreatGT
set_option linter.unusedVariables false
set_option linter.unusedSimpArgs false
namespace Go.Proofs.YtialmplmfcahpaaGreat
open Go.Sx Go.RowKit
theorem qg1 {P : Program} {c : Code} {α : Type} [DecidableEq α] (xs ys : List α) (hl : xs.length = ys.length) (st : Nat → St) {e1 e2 : Ex} {X Y : St} (he1 : e1.exit' ≠ .normal) (he2 : e2.exit' ≠ .normal)
    (hgo : ∀ i a b, xs[i]? = some a → ys[i]? = some b → decide (a = b) = true → Tr P c (st i) .normal (st (i + 1))) (hhit : ∀ i a b, xs[i]? = some a → ys[i]? = some b → decide (a = b) = false → Tr P c (st i) e1 X) (hend : Tr P c (st xs.length) e2 Y) :
    (xs = ys ∧ qac P c (st 0) e2 Y) ∨ (xs ≠ ys ∧ qac P c (st 0) e1 X) := by
  rcases qbP xs ys hl with h | ⟨i, a, b, h1, h2, h3, h4⟩
  · subst h
    refine .inl ⟨rfl, qaj he2 xs.length st (fun i hi => ?_) hend⟩
    obtain ⟨a, ha⟩ := qag hi
    exact hgo i a a ha ha (by simp)
  · refine .inr ⟨fun e => by subst e; rw [h1] at h2; exact h3 (Option.some.inj h2), qaj he1 i st (fun j hj => ?_) (hhit i a b h1 h2 (by simpa using h3))⟩
    obtain ⟨c, hc⟩ := qag (xs := xs) (i := j) (by have := lt_of h1; omega)
    exact hgo j c c hc (by rw [← h4 j hj]; exact hc) (by simp)
theorem notT {b : Bool} (h : b = true) : (!b) = false := by rw [h]; rfl
theorem notF {b : Bool} (h : b = false) : (!b) = true := by rw [h]; rfl
theorem lenNe {α β : Type} {f g : α → β} {xs ys : List α} (h : xs.length = ys.length) : (((xs.map f).length : Int) != ((ys.map g).length : Int)) = false := by simp [h]
theorem qeY {α β : Type} {f g : α → β} {xs ys : List α} (h : ¬ xs.length = ys.length) : (((xs.map f).length : Int) != ((ys.map g).length : Int)) = true := by simp; omega
theorem qDU (xs ys : List Cell) (hx : xs.length ≤ 1048576) : Ret Tryz.prog 99 [.one (.sl 4 (xs.map Cell.e)), .one (.sl 4 (ys.map Cell.e))] [.one (B (decide (xs = ys)))] := by
  by_cases hl : xs.length = ys.length
  · have l := qg1 (P := Tryz.prog) (c := (qaa Tryz.f99 0)) xs ys hl (fun i => qej (xs.map Cell.e) (ys.map Cell.e) i) (X := qgT false) qaD (qah 0)
      (fun i a b ha hb h => qBV _ _ _ _ _ _ _ _ _ _ _ ⟨lt1 (lt_of ha), lt0, lt2 (lt_of ha), qae Cell.e ha, lt0, lt2 (lt_of hb), qae Cell.e hb, notT ((qdP a b).trans h), up1 (lt_of ha) hx, trivial⟩)
      (fun i a b ha hb h => qBU _ _ _ _ _ _ _ _ _ _ _ ⟨lt1 (lt_of ha), lt0, lt2 (lt_of ha), qae Cell.e ha, lt0, lt2 (lt_of hb), qae Cell.e hb, notF ((qdP a b).trans h), trivial⟩)
      (qBW _ _ _ ⟨ge1, trivial⟩)
    rcases l with ⟨h, l⟩ | ⟨h, l⟩
    · rw [dT h]; exact qBY _ _ ⟨lenNe hl, l, trivial⟩
    · rw [dF h]; exact qBX _ _ _ ⟨lenNe hl, l, trivial⟩
  · rw [dF (fun e => hl (by rw [e]))]
    exact qBT _ _ ⟨qeY hl, trivial⟩
theorem qDV (xs ys : List Cell) (hx : xs.length ≤ 1048576) : Ret Tryz.prog 198 [.one (.sl 4 (xs.map Cell.e)), .one (.sl 4 (ys.map Cell.e))] [.one (B (decide (xs = ys)))] := by
  by_cases hl : xs.length = ys.length
  · have l := qg1 (P := Tryz.prog) (c := (qaa Tryz.f198 0)) xs ys hl (fun i => qel (xs.map Cell.e) (ys.map Cell.e) i) (X := qgV false) qaD (qah 0)
      (fun i a b ha hb h => qB7 _ _ _ _ _ _ _ _ _ _ _ ⟨lt1 (lt_of ha), lt0, lt2 (lt_of ha), qae Cell.e ha, lt0, lt2 (lt_of hb), qae Cell.e hb, notT ((qdP a b).trans h), up1 (lt_of ha) hx, trivial⟩)
      (fun i a b ha hb h => qB6 _ _ _ _ _ _ _ _ _ _ _ ⟨lt1 (lt_of ha), lt0, lt2 (lt_of ha), qae Cell.e ha, lt0, lt2 (lt_of hb), qae Cell.e hb, notF ((qdP a b).trans h), trivial⟩)
      (qB8 _ _ _ ⟨ge1, trivial⟩)
    rcases l with ⟨h, l⟩ | ⟨h, l⟩
    · rw [dT h]; exact qCa _ _ ⟨lenNe hl, l, trivial⟩
    · rw [dF h]; exact qB9 _ _ _ ⟨lenNe hl, l, trivial⟩
  · rw [dF (fun e => hl (by rw [e]))]
    exact qB5 _ _ ⟨qeY hl, trivial⟩
theorem qDW (xs ys : List Cell) (hx : xs.length ≤ 1048576) : Ret Tryz.prog 103 [.one (.sl 4 (xs.map Cell.e)), .one (.sl 4 (ys.map Cell.e))] [.one (B (decide (xs = ys)))] :=
  qCe _ _ _ ⟨qDV xs ys hx, trivial⟩
end Go.Proofs.YtialmplmfcahpaaGreat
