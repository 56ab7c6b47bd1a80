/- WithoutOne, Consumed, AllPicks: what program and reference compute. -/
import Derived.Test.YtenekpkjlgddnaaP11
import Derived.Test.YtenekpkjlgddnaaQ1
set_option linter.unusedVariables false
set_option linter.unusedSimpArgs false
namespace Go.Proofs.Ytenekpkjlgddnaa
open Go.Sx Go.RowKit

/-! ### WithoutOne -/
def withoutOne (xs : List Record) (r : Record) : List Record :=
  match xs.findIdx? (fun a => decide (a = r)) with
  | some i => xs.take i ++ xs.drop (i + 1)
  | none => xs

theorem withoutOne_le (xs : List Record) (r : Record) : (withoutOne xs r).length ≤ xs.length := by
  unfold withoutOne
  split
  · simp; omega
  · exact Nat.le_refl _

def idxR (xs : List Record) (r : Record) : Int := match xs.findIdx? (fun a => decide (a = r)) with | some i => i | none => -1

theorem slices_Index_Record_ret (xs : List Record) (r : Record) (hl : xs.length ≤ 8388608) : Ret Try.prog 36 [.one (.sl 5 (xs.map Record.e)), .agg r.e] [.one (I (idxR xs r))] := by
  have l := loop_scan (P := Try.prog) (c := (loopOf Try.f36 0)) xs (fun a => decide (a = r)) (fun i => slices_Index_Record_L0 (xs.map Record.e) r.op r.stamp.epoch r.stamp.turn r.key r.val i) (X := fun i _ => slices_Index_Record_X0 i) ret_ne (exit_ne 0)
    (fun i a ha h => slices_Index_Record_L0_s1 _ _ _ _ _ _ _ _ _ _ _ _ ⟨lt1 (lt_of ha), lt0, lt2 (lt_of ha), at_map Record.e ha, (recEq' a r).trans h, up1 (lt_of ha) hl, trivial⟩)
    (fun i a ha h => slices_Index_Record_L0_x0 _ _ _ _ _ _ _ _ _ _ _ _ ⟨lt1 (lt_of ha), lt0, lt2 (lt_of ha), at_map Record.e ha, (recEq' a r).trans h, trivial⟩)
    (slices_Index_Record_L0_x2 _ _ _ _ _ _ _ ⟨ge1, trivial⟩)
  unfold idxR
  rcases l with ⟨_, h1, _, h2⟩ | ⟨i, a, _, _, _, h1, _, h2⟩
  · simp only [h1]; exact slices_Index_Record_p1 _ _ _ _ _ _ ⟨h2, trivial⟩
  · simp only [h1]; exact slices_Index_Record_p0 _ _ _ _ _ _ _ ⟨h2, trivial⟩

theorem impl_WithoutOne_ret (xs : List Record) (r : Record) (hl : xs.length ≤ 8388608) : Ret Try.prog 16 [.one (.sl 5 (xs.map Record.e)), .agg r.e] [.one (.sl 5 ((withoutOne xs r).map Record.e))] := by
  have c := impl_copyRecords_ret xs hl
  have x := slices_Index_Record_ret xs r hl
  unfold withoutOne
  unfold idxR at x
  cases h : xs.findIdx? (fun a => decide (a = r)) with
  | none =>
    simp only [h] at x ⊢
    exact impl_WithoutOne_p1 _ _ _ _ _ _ _ _ ⟨c, x, dF (by omega), trivial⟩
  | some i =>
    simp only [h] at x ⊢
    have hi : i < xs.length := by
      rw [List.findIdx?_eq_some_iff_getElem] at h
      exact h.1
    exact impl_WithoutOne_p0 _ _ _ _ _ _ _ _ _ ⟨c, x, dT (by omega), ⟨by omega, by omega⟩, slices_Delete_Record_ret xs i (i + 1) (by omega) (by omega), trivial⟩

/-! ### Consumed -/
/-! ### AllPicks -/
end Go.Proofs.Ytenekpkjlgddnaa
