/- Plain lemmas for loops over lists, and how they are read as data. -/
import Derived.Test.YtenekpkjlgddnaaRows
import Derived.Test.YtenekpkjlgddnaaR15
set_option linter.unusedVariables false
set_option linter.unusedSimpArgs false
namespace Go.Proofs.Ytenekpkjlgddnaa
open Go.Sx Go.RowKit

theorem loop_upto {P : Program} {c : Code} {e : Ex} {stE : St} (he : e.exit' ≠ .normal) : ∀ (n : Nat) (st : Nat → St), (∀ i, i < n → Tr P c (st i) .normal (st (i + 1))) → Tr P c (st n) e stE → LoopOk P c (st 0) e stE
  | 0, _, _, hx => .last he hx
  | n + 1, st, hs, hx => .more (hs 0 (by omega)) (loop_upto he n (fun i => st (i + 1)) (fun i hi => hs (i + 1) (by omega)) hx)

theorem at_map {α β : Type} {xs : List α} {i : Nat} {a : α} (f : α → β) (h : xs[i]? = some a) : (xs.map f)[((i : Nat) : Int).toNat]? = some (f a) := by simp [h]

theorem lt1 {α β : Type} {xs : List α} {f : α → β} {i : Nat} (h : i < xs.length) : decide ((i : Int) < (↑(xs.map f).length : Int)) = true := by simp only [List.length_map, decide_eq_true_eq]; omega
theorem ge1 {α β : Type} {xs : List α} {f : α → β} : decide ((↑xs.length : Int) < (↑(xs.map f).length : Int)) = false := by simp
theorem lt0 {i : Nat} : 0 ≤ (i : Int) := by omega
theorem lt2 {α β : Type} {xs : List α} {f : α → β} {i : Nat} (h : i < xs.length) : (i : Int) < (↑(xs.map f).length : Int) := by simp only [List.length_map]; omega
theorem up1 {α : Type} {xs : List α} {i : Nat} (h : i < xs.length) (hl : xs.length ≤ 8388608) : inInt IntKind.i64 ((i : Int) + 1) := ⟨by omega, by omega⟩
theorem get_of {α : Type} {xs : List α} {i : Nat} (h : i < xs.length) : ∃ a, xs[i]? = some a := ⟨xs[i], by simp [h]⟩
theorem lt_of {α : Type} {xs : List α} {i : Nat} {a : α} (h : xs[i]? = some a) : i < xs.length := (List.getElem?_eq_some_iff.1 h).1
theorem mem_of {α : Type} {xs : List α} {i : Nat} {a : α} (h : xs[i]? = some a) : a ∈ xs := List.mem_of_getElem? h

/-- Lists of one length are alike, or there is a first place where they part. -/
theorem first_diff {α : Type} [DecidableEq α] : ∀ (xs ys : List α), xs.length = ys.length → xs = ys ∨ ∃ (i : Nat) (a b : α), xs[i]? = some a ∧ ys[i]? = some b ∧ a ≠ b ∧ ∀ j, j < i → xs[j]? = ys[j]?
  | [], [], _ => .inl rfl
  | a :: xs, b :: ys, h => by
    by_cases hab : a = b
    · subst hab
      rcases first_diff xs ys (by simpa using h) with rfl | ⟨i, x, y, h1, h2, h3, h4⟩
      · exact .inl rfl
      · refine .inr ⟨i + 1, x, y, by simpa using h1, by simpa using h2, h3, fun j hj => ?_⟩
        cases j with
        | zero => simp
        | succ j => simpa using h4 j (by omega)
    · exact .inr ⟨0, a, b, rfl, rfl, hab, fun j hj => by omega⟩
  | [], b :: ys, h => by simp at h
  | a :: xs, [], h => by simp at h

def eI (n : Int) : List D := [I n]
def eB (b : Bool) : List D := [B b]

/-- There is a first one that passes, or none. -/
theorem first_hit {α : Type} (p : α → Bool) : ∀ (xs : List α), (xs.find? p = none ∧ ∀ a ∈ xs, p a = false) ∨ ∃ (i : Nat) (a : α), xs[i]? = some a ∧ p a = true ∧ xs.find? p = some a ∧ ∀ j b, j < i → xs[j]? = some b → p b = false
  | [] => .inl ⟨rfl, by simp⟩
  | a :: xs => by
    by_cases ha : p a = true
    · exact .inr ⟨0, a, rfl, ha, by simp [ha], fun j b hj => by omega⟩
    · have ha' : p a = false := by simpa using ha
      rcases first_hit p xs with ⟨h, h2⟩ | ⟨i, x, h1, h2, h4, h3⟩
      · refine .inl ⟨by simp [ha', h], fun b hb => ?_⟩
        rcases List.mem_cons.1 hb with rfl | hb
        · exact ha'
        · exact h2 b hb
      · refine .inr ⟨i + 1, x, by simpa using h1, h2, by simp [ha', h4], fun j b hj hb => ?_⟩
        cases j with
        | zero => simp at hb; subst hb; exact ha'
        | succ j => exact h3 j b (by omega) (by simpa using hb)

theorem flat_map {α : Type} (f : α → List D) (h : ∀ a, ∀ d ∈ f a, ∃ x, d = .v x) (xs : List α) : Flat (xs.map f) := by
  intro e he d hd
  obtain ⟨a, _, rfl⟩ := List.mem_map.1 he
  exact h a d hd
theorem flat_one {e : List D} (h : ∀ d ∈ e, ∃ x, d = .v x) : Flat [e] := by
  intro e' he; simp at he; subst he; exact h

/-- A loop over a list that is left at the first element that passes. -/
theorem loop_scan {P : Program} {c : Code} {α : Type} (xs : List α) (p : α → Bool) (st : Nat → St) {e1 e2 : Ex} {X : Nat → α → St} {Y : St} (he1 : e1.exit' ≠ .normal) (he2 : e2.exit' ≠ .normal)
    (hgo : ∀ i a, xs[i]? = some a → p a = false → Tr P c (st i) .normal (st (i + 1))) (hhit : ∀ i a, xs[i]? = some a → p a = true → Tr P c (st i) e1 (X i a)) (hend : Tr P c (st xs.length) e2 Y) :
    (xs.find? p = none ∧ xs.findIdx? p = none ∧ xs.any p = false ∧ LoopOk P c (st 0) e2 Y) ∨ ∃ i a, xs[i]? = some a ∧ p a = true ∧ xs.find? p = some a ∧ xs.findIdx? p = some i ∧ xs.any p = true ∧ LoopOk P c (st 0) e1 (X i a) := by
  rcases first_hit p xs with ⟨h1, h2⟩ | ⟨i, a, h1, h2, h3, h4⟩
  · refine .inl ⟨h1, ?_, ?_, loop_upto he2 xs.length st (fun i hi => ?_) hend⟩
    · rw [List.findIdx?_eq_none_iff]; exact h2
    · rw [List.any_eq_false]; exact fun a ha => by simp [h2 a ha]
    · obtain ⟨a, ha⟩ := get_of hi
      exact hgo i a ha (h2 a (mem_of ha))
  · refine .inr ⟨i, a, h1, h2, h3, ?_, List.any_eq_true.2 ⟨a, mem_of h1, h2⟩, loop_upto he1 i st (fun j hj => ?_) (hhit i a h1 h2)⟩
    · have hi := lt_of h1
      have ha : xs[i] = a := by rw [List.getElem?_eq_getElem hi] at h1; exact Option.some.inj h1
      rw [List.findIdx?_eq_some_iff_getElem]
      refine ⟨hi, by rw [ha]; exact h2, fun j hj => ?_⟩
      have := h4 j xs[j] hj (by simp)
      simp [this]
    · obtain ⟨b, hb⟩ := get_of (xs := xs) (i := j) (by have := lt_of h1; omega)
      exact hgo j b hb (h4 j b hj hb)

end Go.Proofs.Ytenekpkjlgddnaa
