/- Small functions that many others call, and lemmas for loops. -/
import Derived.Test.YtenekpkjlgddnaaDoorT2
import Derived.Test.YtenekpkjlgddnaaDoorGN
set_option linter.unusedVariables false
set_option linter.unusedSimpArgs false
namespace Go.Proofs.YtenekpkjlgddnaaDoor
open Go.Sx Go.RowKit

def inR (n lo hi : Int) : Bool := decide (lo ≤ n ∧ n ≤ hi)

theorem spec_l01In_ret (n lo hi : Int) : Ret Tryd.prog 13 [.one (I n), .one (I lo), .one (I hi)] [.one (B (inR n lo hi))] := by
  by_cases h : lo ≤ n
  · have e : inR n lo hi = decide (n ≤ hi) := by simp [inR, h]
    rw [e]; exact spec_l01In_p0 _ _ _ ⟨by simp only [decide_eq_true_eq]; omega, trivial⟩
  · rw [show inR n lo hi = false by simp [inR, h]]; exact spec_l01In_p1 _ _ _ ⟨by simp only [decide_eq_false_iff_not]; omega, trivial⟩
theorem impl_within_ret (n lo hi : Int) : Ret Tryd.prog 15 [.one (I n), .one (I lo), .one (I hi)] [.one (B (inR n lo hi))] := by
  by_cases h : lo ≤ n
  · have e : inR n lo hi = decide (n ≤ hi) := by simp [inR, h]
    rw [e]; exact impl_within_p0 _ _ _ ⟨by simp only [decide_eq_true_eq]; omega, trivial⟩
  · rw [show inR n lo hi = false by simp [inR, h]]; exact impl_within_p1 _ _ _ ⟨by simp only [decide_eq_false_iff_not]; omega, trivial⟩
theorem Record.flat (r : Record) : ∀ d ∈ r.e, ∃ x, d = .v x := by
  intro d hd
  simp only [Record.e, List.mem_cons, List.not_mem_nil, or_false] at hd
  rcases hd with rfl | rfl | rfl | rfl | rfl <;> exact ⟨_, rfl⟩

theorem Cell.flat (r : Cell) : ∀ d ∈ r.e, ∃ x, d = .v x := by
  intro d hd
  simp only [Cell.e, List.mem_cons, List.not_mem_nil, or_false] at hd
  rcases hd with rfl | rfl | rfl | rfl <;> exact ⟨_, rfl⟩

theorem Pick.flat (r : Pick) : ∀ d ∈ r.e, ∃ x, d = .v x := by
  intro d hd
  simp only [Pick.e, List.mem_cons, List.not_mem_nil, or_false] at hd
  rcases hd with rfl | rfl | rfl <;> exact ⟨_, rfl⟩

theorem Stamp.flat (r : Stamp) : ∀ d ∈ r.e, ∃ x, d = .v x := by
  intro d hd
  simp only [Stamp.e, List.mem_cons, List.not_mem_nil, or_false] at hd
  rcases hd with rfl | rfl <;> exact ⟨_, rfl⟩

theorem dT {p : Prop} [Decidable p] (h : p) : decide p = true := decide_eq_true h
theorem dF {p : Prop} [Decidable p] (h : ¬ p) : decide p = false := decide_eq_false h
end Go.Proofs.YtenekpkjlgddnaaDoor
