/- Small functions that many others call, and lemmas for loops. -/
import Derived.Test.YtbbjajmimckabaaGreatT2
import Derived.Test.YtbbjajmimckabaaGreatT3
import Derived.Test.YtbbjajmimckabaaGreatT4
import Derived.Test.YtbbjajmimckabaaGreatGN
set_option linter.unusedVariables false
set_option linter.unusedSimpArgs false
namespace Go.Proofs.YtbbjajmimckabaaGreat
open Go.Sx Go.RowKit

def inR (n lo hi : Int) : Bool := decide (lo ≤ n ∧ n ≤ hi)



def brought (n lo hi : Int) : Int := if hi < lo then lo else if n < lo then lo else if hi < n then hi else n



theorem Record.flat (r : Record) : ∀ d ∈ r.e, ∃ x, d = .v x := by
  intro d hd
  simp only [Record.e, List.mem_cons, List.not_mem_nil, or_false] at hd
  rcases hd with rfl | rfl | rfl | rfl | rfl <;> exact ⟨_, rfl⟩

theorem Cell.flat (r : Cell) : ∀ d ∈ r.e, ∃ x, d = .v x := by
  intro d hd
  simp only [Cell.e, List.mem_cons, List.not_mem_nil, or_false] at hd
  rcases hd with rfl | rfl | rfl | rfl <;> exact ⟨_, rfl⟩

theorem Pick.flat (r : Pick) : ∀ d ∈ r.e, ∃ x, d = .v x := by
  intro d hd
  simp only [Pick.e, List.mem_cons, List.not_mem_nil, or_false] at hd
  rcases hd with rfl | rfl | rfl <;> exact ⟨_, rfl⟩

theorem Stamp.flat (r : Stamp) : ∀ d ∈ r.e, ∃ x, d = .v x := by
  intro d hd
  simp only [Stamp.e, List.mem_cons, List.not_mem_nil, or_false] at hd
  rcases hd with rfl | rfl <;> exact ⟨_, rfl⟩

theorem filt_len {α : Type} (p : α → Bool) (xs : List α) (i : Nat) : ((xs.take i).filter p).length ≤ i :=
  Nat.le_trans (List.length_filter_le ..) (by simp; omega)

theorem recEq (a r : Record) : (a.op == r.op && (a.stamp.epoch == r.stamp.epoch && a.stamp.turn == r.stamp.turn && (a.key == r.key && a.val == r.val))) = decide (a = r) := by
  obtain ⟨o, ⟨e, t⟩, k, v⟩ := a
  obtain ⟨o', ⟨e', t'⟩, k', v'⟩ := r
  rw [Bool.eq_iff_iff]
  simp only [Bool.and_eq_true, beq_iff_eq, decide_eq_true_eq, Record.mk.injEq, Stamp.mk.injEq]

theorem recEq' (a r : Record) : (r.op == a.op && (r.stamp.epoch == a.stamp.epoch && r.stamp.turn == a.stamp.turn && (r.key == a.key && r.val == a.val))) = decide (a = r) := by
  rw [recEq r a]
  exact decide_eq_decide.2 ⟨Eq.symm, Eq.symm⟩

theorem cellEq (a r : Cell) : (a.op == r.op && (a.epoch == r.epoch && (a.key == r.key && a.val == r.val))) = decide (a = r) := by
  obtain ⟨o, e, k, v⟩ := a
  obtain ⟨o', e', k', v'⟩ := r
  rw [Bool.eq_iff_iff]
  simp only [Bool.and_eq_true, beq_iff_eq, decide_eq_true_eq, Cell.mk.injEq]

theorem cellEq' (a r : Cell) : (r.op == a.op && (r.epoch == a.epoch && (r.key == a.key && r.val == a.val))) = decide (a = r) := by
  rw [cellEq r a]
  exact decide_eq_decide.2 ⟨Eq.symm, Eq.symm⟩

theorem tr_to {P : Program} {c : Code} {st : St} {e : Ex} {α : Type} (f : α → St) {l l' : α} (h : Tr P c st e (f l)) (hl : l = l') : Tr P c st e (f l') := hl ▸ h

theorem ret_to {P : Program} {f : Nat} {args : List AD} {k : Nat} {l l' : List (List D)} (h : Ret P f args [.one (.sl k l)]) (hl : l = l') : Ret P f args [.one (.sl k l')] := hl ▸ h

theorem flatMap_len {α β : Type} (f : α → List β) (c : Nat) (h : ∀ a, (f a).length ≤ c) : ∀ xs : List α, (xs.flatMap f).length ≤ xs.length * c
  | [] => by simp
  | a :: xs => by
    have h1 := h a
    have h2 := flatMap_len f c h xs
    simp only [List.flatMap_cons, List.length_append, List.length_cons, Nat.add_mul, Nat.one_mul]
    omega

theorem dT {p : Prop} [Decidable p] (h : p) : decide p = true := decide_eq_true h
theorem dF {p : Prop} [Decidable p] (h : ¬ p) : decide p = false := decide_eq_false h
end Go.Proofs.YtbbjajmimckabaaGreat
