/- Comparisons of lists: what program and reference compute. -/
import Derived.Test.YtialmplmfcahpaaGreatC1
import Derived.Test.YtialmplmfcahpaaGreatGT
set_option linter.unusedVariables false
set_option linter.unusedSimpArgs false
namespace Go.Proofs.YtialmplmfcahpaaGreat
open Go.Sx Go.RowKit Go.Proofs.Tryz
theorem qg4 {P : Program} {c : Code} {α : Type} [DecidableEq α] (xs ys : List α) (hl : xs.length = ys.length) (st : Nat → St) {e1 e2 : Ex} {X Y : St} (he1 : e1.exit' ≠ .normal) (he2 : e2.exit' ≠ .normal)
    (hgo : ∀ i a b, xs[i]? = some a → ys[i]? = some b → decide (a = b) = true → Tr P c (st i) .normal (st (i + 1))) (hhit : ∀ i a b, xs[i]? = some a → ys[i]? = some b → decide (a = b) = false → Tr P c (st i) e1 X) (hend : Tr P c (st xs.length) e2 Y) :
    (xs = ys ∧ qac P c (st 0) e2 Y) ∨ (xs ≠ ys ∧ qac P c (st 0) e1 X) := by
  rcases qbP xs ys hl with h | ⟨i, a, b, h1, h2, h3, h4⟩
  · subst h
    refine .inl ⟨rfl, qaj he2 xs.length st (fun i hi => ?_) hend⟩
    obtain ⟨a, ha⟩ := qag hi
    exact hgo i a a ha ha (by simp)
  · refine .inr ⟨fun e => by subst e; rw [h1] at h2; exact h3 (Option.some.inj h2), qaj he1 i st (fun j hj => ?_) (hhit i a b h1 h2 (by simpa using h3))⟩
    obtain ⟨c, hc⟩ := qag (xs := xs) (i := j) (by have := lt_of h1; omega)
    exact hgo j c c hc (by rw [← h4 j hj]; exact hc) (by simp)
theorem notT {b : Bool} (h : b = true) : (!b) = false := by rw [h]; rfl
theorem notF {b : Bool} (h : b = false) : (!b) = true := by rw [h]; rfl
theorem lenNe {α β : Type} {f g : α → β} {xs ys : List α} (h : xs.length = ys.length) : (((xs.map f).length : Int) != ((ys.map g).length : Int)) = false := by simp [h]
theorem qeW {α β : Type} {f g : α → β} {xs ys : List α} (h : ¬ xs.length = ys.length) : (((xs.map f).length : Int) != ((ys.map g).length : Int)) = true := by simp; omega
theorem qjN (xs ys : List Record) (hx : xs.length ≤ 1048576) : Ret prog 80 [.one (.sl 5 (xs.map Record.e)), .one (.sl 5 (ys.map Record.e))] [.one (B (decide (xs = ys)))] := by
  by_cases hl : xs.length = ys.length
  · have l := qg4 (P := prog) (c := (qaa f80 0)) xs ys hl (fun i => qeh (xs.map Record.e) (ys.map Record.e) i) (X := qgV false) qaD (qah 0)
      (fun i a b ha hb h => qB8 _ _ _ _ _ _ _ _ _ _ _ _ _ ⟨lt1 (lt_of ha), lt0, lt2 (lt_of ha), qae Record.e ha, lt0, lt2 (lt_of hb), qae Record.e hb, notT ((recEq a b).trans h), up1 (lt_of ha) hx, trivial⟩)
      (fun i a b ha hb h => qB7 _ _ _ _ _ _ _ _ _ _ _ _ _ ⟨lt1 (lt_of ha), lt0, lt2 (lt_of ha), qae Record.e ha, lt0, lt2 (lt_of hb), qae Record.e hb, notF ((recEq a b).trans h), trivial⟩)
      (qB9 _ _ _ ⟨ge1, trivial⟩)
    rcases l with ⟨h, l⟩ | ⟨h, l⟩
    · rw [dT h]; exact qCb _ _ ⟨lenNe hl, l, trivial⟩
    · rw [dF h]; exact qCa _ _ _ ⟨lenNe hl, l, trivial⟩
  · rw [dF (fun e => hl (by rw [e]))]
    exact qB6 _ _ ⟨qeW hl, trivial⟩
theorem qeX (xs ys : List Record) (r : Bool) (h : decide (xs = ys) = r) (hx : xs.length ≤ 1048576) : Ret prog 80 [.one (.sl 5 (xs.map Record.e)), .one (.sl 5 (ys.map Record.e))] [.one (B r)] := h ▸ qjN xs ys hx
theorem qjO (xs ys : List Record) (hx : xs.length ≤ 1048576) : Ret prog 86 [.one (.sl 5 (xs.map Record.e)), .one (.sl 5 (ys.map Record.e))] [.one (B (decide (xs = ys)))] := by
  by_cases hl : xs.length = ys.length
  · have l := qg4 (P := prog) (c := (qaa f86 0)) xs ys hl (fun i => qej (xs.map Record.e) (ys.map Record.e) i) (X := qgX false) qaD (qah 0)
      (fun i a b ha hb h => qCk _ _ _ _ _ _ _ _ _ _ _ _ _ ⟨lt1 (lt_of ha), lt0, lt2 (lt_of ha), qae Record.e ha, lt0, lt2 (lt_of hb), qae Record.e hb, notT ((recEq a b).trans h), up1 (lt_of ha) hx, trivial⟩)
      (fun i a b ha hb h => qCj _ _ _ _ _ _ _ _ _ _ _ _ _ ⟨lt1 (lt_of ha), lt0, lt2 (lt_of ha), qae Record.e ha, lt0, lt2 (lt_of hb), qae Record.e hb, notF ((recEq a b).trans h), trivial⟩)
      (qCl _ _ _ ⟨ge1, trivial⟩)
    rcases l with ⟨h, l⟩ | ⟨h, l⟩
    · rw [dT h]; exact qCn _ _ ⟨lenNe hl, l, trivial⟩
    · rw [dF h]; exact qCm _ _ _ ⟨lenNe hl, l, trivial⟩
  · rw [dF (fun e => hl (by rw [e]))]
    exact qCi _ _ ⟨qeW hl, trivial⟩
theorem qg5 (xs ys : List Record) (r : Bool) (h : decide (xs = ys) = r) (hx : xs.length ≤ 1048576) : Ret prog 86 [.one (.sl 5 (xs.map Record.e)), .one (.sl 5 (ys.map Record.e))] [.one (B r)] := h ▸ qjO xs ys hx
end Go.Proofs.YtialmplmfcahpaaGreat
