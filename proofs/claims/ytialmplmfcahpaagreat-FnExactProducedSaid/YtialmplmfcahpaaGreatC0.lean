/- Small functions that many others call, and lemmas for loops. -/
import Derived.Test.YtialmplmfcahpaaGreatT2
import Derived.Test.YtialmplmfcahpaaGreatT3
import Derived.Test.YtialmplmfcahpaaGreatT4
import Derived.Test.YtialmplmfcahpaaGreatGN
set_option linter.unusedVariables false
set_option linter.unusedSimpArgs false
namespace Go.Proofs.YtialmplmfcahpaaGreat
open Go.Sx Go.RowKit
def inR (n lo hi : Int) : Bool := decide (lo ≤ n ∧ n ≤ hi)
theorem qa2 (n lo hi : Int) : Ret Tryz.prog 138 [.one (I n), .one (I lo), .one (I hi)] [.one (B (inR n lo hi))] := by
  by_cases h : lo ≤ n
  · have e : inR n lo hi = decide (n ≤ hi) := by simp [inR, h]
    rw [e]; exact qtl _ _ _ ⟨by simp only [decide_eq_true_eq]; omega, trivial⟩
  · rw [show inR n lo hi = false by simp [inR, h]]; exact qtm _ _ _ ⟨by simp only [decide_eq_false_iff_not]; omega, trivial⟩
theorem qgq (n lo hi : Int) (r : Bool) (h : inR n lo hi = r) : Ret Tryz.prog 138 [.one (I n), .one (I lo), .one (I hi)] [.one (B r)] := h ▸ qa2 n lo hi
theorem qbm (n lo hi : Int) : Ret Tryz.prog 119 [.one (I n), .one (I lo), .one (I hi)] [.one (B (inR n lo hi))] := by
  by_cases h : lo ≤ n
  · have e : inR n lo hi = decide (n ≤ hi) := by simp [inR, h]
    rw [e]; exact qtj _ _ _ ⟨by simp only [decide_eq_true_eq]; omega, trivial⟩
  · rw [show inR n lo hi = false by simp [inR, h]]; exact qtk _ _ _ ⟨by simp only [decide_eq_false_iff_not]; omega, trivial⟩
theorem qgr (n lo hi : Int) (r : Bool) (h : inR n lo hi = r) : Ret Tryz.prog 119 [.one (I n), .one (I lo), .one (I hi)] [.one (B r)] := h ▸ qbm n lo hi
theorem Record.flat (r : Record) : ∀ d ∈ r.e, ∃ x, d = .v x := by
  intro d hd
  simp only [Record.e, List.mem_cons, List.not_mem_nil, or_false] at hd
  rcases hd with rfl | rfl | rfl | rfl | rfl <;> exact ⟨_, rfl⟩
theorem Cell.flat (r : Cell) : ∀ d ∈ r.e, ∃ x, d = .v x := by
  intro d hd
  simp only [Cell.e, List.mem_cons, List.not_mem_nil, or_false] at hd
  rcases hd with rfl | rfl | rfl | rfl <;> exact ⟨_, rfl⟩
theorem Pick.flat (r : Pick) : ∀ d ∈ r.e, ∃ x, d = .v x := by
  intro d hd
  simp only [Pick.e, List.mem_cons, List.not_mem_nil, or_false] at hd
  rcases hd with rfl | rfl | rfl <;> exact ⟨_, rfl⟩
theorem Stamp.flat (r : Stamp) : ∀ d ∈ r.e, ∃ x, d = .v x := by
  intro d hd
  simp only [Stamp.e, List.mem_cons, List.not_mem_nil, or_false] at hd
  rcases hd with rfl | rfl <;> exact ⟨_, rfl⟩
theorem qcS {α : Type} (p : α → Bool) (xs : List α) (i : Nat) : ((xs.take i).filter p).length ≤ i :=
  Nat.le_trans (List.length_filter_le ..) (by simp; omega)
theorem qdP (a r : Cell) : (a.op == r.op && (a.epoch == r.epoch && (a.key == r.key && a.val == r.val))) = decide (a = r) := by
  obtain ⟨o, e, k, v⟩ := a
  obtain ⟨o', e', k', v'⟩ := r
  rw [Bool.eq_iff_iff]
  simp only [Bool.and_eq_true, beq_iff_eq, decide_eq_true_eq, Cell.mk.injEq]
theorem qlG (a r : Cell) : (r.op == a.op && (r.epoch == a.epoch && (r.key == a.key && r.val == a.val))) = decide (a = r) := by
  rw [qdP r a]
  exact decide_eq_decide.2 ⟨Eq.symm, Eq.symm⟩
theorem tr_to {P : Program} {c : Code} {st : St} {e : Ex} {α : Type} (f : α → St) {l l' : α} (h : Tr P c st e (f l)) (hl : l = l') : Tr P c st e (f l') := hl ▸ h
theorem qt9 {P : Program} {f : Nat} {args : List AD} {k : Nat} {l l' : List (List D)} (h : Ret P f args [.one (.sl k l)]) (hl : l = l') : Ret P f args [.one (.sl k l')] := hl ▸ h
theorem dT {p : Prop} [Decidable p] (h : p) : decide p = true := decide_eq_true h
theorem dF {p : Prop} [Decidable p] (h : ¬ p) : decide p = false := decide_eq_false h
end Go.Proofs.YtialmplmfcahpaaGreat
