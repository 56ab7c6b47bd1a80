/- Comparisons of lists: what program and reference compute. -/
import Derived.Test.YtenekpkjlgddnaaC0
import Derived.Test.YtenekpkjlgddnaaGT
set_option linter.unusedVariables false
set_option linter.unusedSimpArgs false
namespace Go.Proofs.Ytenekpkjlgddnaa
open Go.Sx Go.RowKit

/-- A loop over two lists of one length that is left at the first place where they part. -/
theorem loop_eq {P : Program} {c : Code} {α : Type} [DecidableEq α] (xs ys : List α) (hl : xs.length = ys.length) (st : Nat → St) {e1 e2 : Ex} {X Y : St} (he1 : e1.exit' ≠ .normal) (he2 : e2.exit' ≠ .normal)
    (hgo : ∀ i a b, xs[i]? = some a → ys[i]? = some b → decide (a = b) = true → Tr P c (st i) .normal (st (i + 1))) (hhit : ∀ i a b, xs[i]? = some a → ys[i]? = some b → decide (a = b) = false → Tr P c (st i) e1 X) (hend : Tr P c (st xs.length) e2 Y) :
    (xs = ys ∧ LoopOk P c (st 0) e2 Y) ∨ (xs ≠ ys ∧ LoopOk P c (st 0) e1 X) := by
  rcases first_diff xs ys hl with h | ⟨i, a, b, h1, h2, h3, h4⟩
  · subst h
    refine .inl ⟨rfl, loop_upto he2 xs.length st (fun i hi => ?_) hend⟩
    obtain ⟨a, ha⟩ := get_of hi
    exact hgo i a a ha ha (by simp)
  · refine .inr ⟨fun e => by subst e; rw [h1] at h2; exact h3 (Option.some.inj h2), loop_upto he1 i st (fun j hj => ?_) (hhit i a b h1 h2 (by simpa using h3))⟩
    obtain ⟨c, hc⟩ := get_of (xs := xs) (i := j) (by have := lt_of h1; omega)
    exact hgo j c c hc (by rw [← h4 j hj]; exact hc) (by simp)

theorem notT {b : Bool} (h : b = true) : (!b) = false := by rw [h]; rfl
theorem notF {b : Bool} (h : b = false) : (!b) = true := by rw [h]; rfl
theorem lenNe {α β : Type} {f : α → β} {g : α → β} {xs ys : List α} (h : xs.length = ys.length) : (((xs.map f).length : Int) != ((ys.map g).length : Int)) = false := by simp [h]
theorem lenNe' {α β : Type} {f : α → β} {g : α → β} {xs ys : List α} (h : ¬ xs.length = ys.length) : (((xs.map f).length : Int) != ((ys.map g).length : Int)) = true := by simp; omega

theorem slices_Equal_Record_ret (xs ys : List Record) (hx : xs.length ≤ 8388608) : Ret Try.prog 38 [.one (.sl 5 (xs.map Record.e)), .one (.sl 5 (ys.map Record.e))] [.one (B (decide (xs = ys)))] := by
  by_cases hl : xs.length = ys.length
  · have l := loop_eq (P := Try.prog) (c := (loopOf Try.f38 0)) xs ys hl (fun i => slices_Equal_Record_L0 (xs.map Record.e) (ys.map Record.e) i) (X := slices_Equal_Record_X0 false) ret_ne (exit_ne 0)
      (fun i a b ha hb h => slices_Equal_Record_L0_s1 _ _ _ _ _ _ _ _ _ _ _ _ _ ⟨lt1 (lt_of ha), lt0, lt2 (lt_of ha), at_map Record.e ha, lt0, lt2 (lt_of hb), at_map Record.e hb, notT ((recEq a b).trans h), up1 (lt_of ha) hx, trivial⟩)
      (fun i a b ha hb h => slices_Equal_Record_L0_x0 _ _ _ _ _ _ _ _ _ _ _ _ _ ⟨lt1 (lt_of ha), lt0, lt2 (lt_of ha), at_map Record.e ha, lt0, lt2 (lt_of hb), at_map Record.e hb, notF ((recEq a b).trans h), trivial⟩)
      (slices_Equal_Record_L0_x2 _ _ _ ⟨ge1, trivial⟩)
    rcases l with ⟨h, l⟩ | ⟨h, l⟩
    · rw [dT h]; exact slices_Equal_Record_p2 _ _ ⟨lenNe hl, l, trivial⟩
    · rw [dF h]; exact slices_Equal_Record_p1 _ _ _ ⟨lenNe hl, l, trivial⟩
  · rw [dF (fun e => hl (by rw [e]))]
    exact slices_Equal_Record_p0 _ _ ⟨lenNe' hl, trivial⟩

theorem laws_sameRecords_ret (xs ys : List Record) (hx : xs.length ≤ 8388608) : Ret Try.prog 18 [.one (.sl 5 (xs.map Record.e)), .one (.sl 5 (ys.map Record.e))] [.one (B (decide (xs = ys)))] := by
  by_cases hl : xs.length = ys.length
  · have l := loop_eq (P := Try.prog) (c := (loopOf Try.f18 0)) xs ys hl (fun i => laws_sameRecords_L0 (xs.map Record.e) (ys.map Record.e) i) (X := laws_sameRecords_X0 false) ret_ne (exit_ne 0)
      (fun i a b ha hb h => laws_sameRecords_L0_s1 _ _ _ _ _ _ _ _ _ _ _ _ _ ⟨lt1 (lt_of ha), lt0, lt2 (lt_of ha), at_map Record.e ha, lt0, lt2 (lt_of hb), at_map Record.e hb, notT ((recEq a b).trans h), up1 (lt_of ha) hx, trivial⟩)
      (fun i a b ha hb h => laws_sameRecords_L0_x0 _ _ _ _ _ _ _ _ _ _ _ _ _ ⟨lt1 (lt_of ha), lt0, lt2 (lt_of ha), at_map Record.e ha, lt0, lt2 (lt_of hb), at_map Record.e hb, notF ((recEq a b).trans h), trivial⟩)
      (laws_sameRecords_L0_x2 _ _ _ ⟨ge1, trivial⟩)
    rcases l with ⟨h, l⟩ | ⟨h, l⟩
    · rw [dT h]; exact laws_sameRecords_p2 _ _ ⟨lenNe hl, l, trivial⟩
    · rw [dF h]; exact laws_sameRecords_p1 _ _ _ ⟨lenNe hl, l, trivial⟩
  · rw [dF (fun e => hl (by rw [e]))]
    exact laws_sameRecords_p0 _ _ ⟨lenNe' hl, trivial⟩

theorem laws_sameRecords_ret' (xs ys : List Record) (r : Bool) (h : decide (xs = ys) = r) (hx : xs.length ≤ 8388608) : Ret Try.prog 18 [.one (.sl 5 (xs.map Record.e)), .one (.sl 5 (ys.map Record.e))] [.one (B r)] := h ▸ laws_sameRecords_ret xs ys hx

end Go.Proofs.Ytenekpkjlgddnaa
