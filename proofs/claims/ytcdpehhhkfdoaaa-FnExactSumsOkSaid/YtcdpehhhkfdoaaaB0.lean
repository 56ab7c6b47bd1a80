/- Plain lemmas for loops over lists, and how they are read as data. -/
import Derived.Test.YtcdpehhhkfdoaaaRows
import Derived.Test.YtcdpehhhkfdoaaaR17
set_option linter.unusedVariables false
set_option linter.unusedSimpArgs false
namespace Go.Proofs.Ytcdpehhhkfdoaaa
open Go.Sx Go.RowKit

theorem loop_upto {P : Program} {c : Code} {e : Ex} {stE : St} (he : e.exit' ≠ .normal) : ∀ (n : Nat) (st : Nat → St), (∀ i, i < n → Tr P c (st i) .normal (st (i + 1))) → Tr P c (st n) e stE → LoopOk P c (st 0) e stE
  | 0, _, _, hx => .last he hx
  | n + 1, st, hs, hx => .more (hs 0 (by omega)) (loop_upto he n (fun i => st (i + 1)) (fun i hi => hs (i + 1) (by omega)) hx)

/-- Loops whose rounds are counted from somewhere on. -/
theorem loop_from {P : Program} {c : Code} {e : Ex} {stE : St} (he : e.exit' ≠ .normal) (k n : Nat) (st : Nat → St) (hkn : k ≤ n) (hs : ∀ i, k ≤ i → i < n → Tr P c (st i) .normal (st (i + 1))) (hx : Tr P c (st n) e stE) : LoopOk P c (st k) e stE := by
  have := loop_upto (P := P) (c := c) he (n - k) (fun i => st (k + i)) (fun i hi => hs (k + i) (by omega) (by omega)) (by rw [show k + (n - k) = n by omega]; exact hx)
  simpa using this

theorem at_map {α β : Type} {xs : List α} {i : Nat} {a : α} (f : α → β) (h : xs[i]? = some a) : (xs.map f)[((i : Nat) : Int).toNat]? = some (f a) := by simp [h]

theorem lt1 {α β : Type} {xs : List α} {f : α → β} {i : Nat} (h : i < xs.length) : decide ((i : Int) < (↑(xs.map f).length : Int)) = true := by simp only [List.length_map, decide_eq_true_eq]; omega
theorem ge1 {α β : Type} {xs : List α} {f : α → β} : decide ((↑xs.length : Int) < (↑(xs.map f).length : Int)) = false := by simp
theorem lt0 {i : Nat} : 0 ≤ (i : Int) := by omega
theorem lt2 {α β : Type} {xs : List α} {f : α → β} {i : Nat} (h : i < xs.length) : (i : Int) < (↑(xs.map f).length : Int) := by simp only [List.length_map]; omega
theorem up1 {α : Type} {xs : List α} {i : Nat} (h : i < xs.length) (hl : xs.length ≤ 1048576) : inInt IntKind.i64 ((i : Int) + 1) := ⟨by omega, by omega⟩
theorem upM {α : Type} {xs : List α} {i : Nat} (h : i < xs.length) (hl : (xs.length : Int) ≤ 9223372036854775807) : inInt IntKind.i64 ((i : Int) + 1) := ⟨by omega, by omega⟩

theorem get_of {α : Type} {xs : List α} {i : Nat} (h : i < xs.length) : ∃ a, xs[i]? = some a := ⟨xs[i], by simp [h]⟩
theorem lt_of {α : Type} {xs : List α} {i : Nat} {a : α} (h : xs[i]? = some a) : i < xs.length := (List.getElem?_eq_some_iff.1 h).1
theorem mem_of {α : Type} {xs : List α} {i : Nat} {a : α} (h : xs[i]? = some a) : a ∈ xs := List.mem_of_getElem? h

/-- Lists of one length are alike, or there is a first place where they part. -/
theorem first_diff {α : Type} [DecidableEq α] : ∀ (xs ys : List α), xs.length = ys.length → xs = ys ∨ ∃ (i : Nat) (a b : α), xs[i]? = some a ∧ ys[i]? = some b ∧ a ≠ b ∧ ∀ j, j < i → xs[j]? = ys[j]?
  | [], [], _ => .inl rfl
  | a :: xs, b :: ys, h => by
    by_cases hab : a = b
    · subst hab
      rcases first_diff xs ys (by simpa using h) with rfl | ⟨i, x, y, h1, h2, h3, h4⟩
      · exact .inl rfl
      · refine .inr ⟨i + 1, x, y, by simpa using h1, by simpa using h2, h3, fun j hj => ?_⟩
        cases j with
        | zero => simp
        | succ j => simpa using h4 j (by omega)
    · exact .inr ⟨0, a, b, rfl, rfl, hab, fun j hj => by omega⟩
  | [], b :: ys, h => by simp at h
  | a :: xs, [], h => by simp at h

/-- All pass, or there is a first one that does not. -/
theorem first_bad {α : Type} (p : α → Bool) : ∀ (xs : List α), (∀ a ∈ xs, p a = true) ∨ ∃ (i : Nat) (a : α), xs[i]? = some a ∧ p a = false ∧ ∀ j b, j < i → xs[j]? = some b → p b = true
  | [] => .inl (by simp)
  | a :: xs => by
    by_cases ha : p a = true
    · rcases first_bad p xs with h | ⟨i, x, h1, h2, h3⟩
      · refine .inl fun b hb => ?_
        rcases List.mem_cons.1 hb with rfl | hb
        · exact ha
        · exact h b hb
      · refine .inr ⟨i + 1, x, by simpa using h1, h2, fun j b hj hb => ?_⟩
        cases j with
        | zero => simp at hb; subst hb; exact ha
        | succ j => exact h3 j b (by omega) (by simpa using hb)
    · exact .inr ⟨0, a, rfl, by simpa using ha, fun j b hj => by omega⟩

/-- What stands in a list that is written from the left: the first i ones are there, the rest is as it was made. -/
def fillAt {α : Type} (e : α → List D) (z : List D) (xs : List α) (i : Nat) : List (List D) := (xs.take i).map e ++ List.replicate (xs.length - i) z

theorem fillAt_length {α : Type} {e : α → List D} {z : List D} {xs : List α} {i : Nat} (h : i ≤ xs.length) : (fillAt e z xs i).length = xs.length := by simp [fillAt]; omega
theorem fillAt_lt {α : Type} {e : α → List D} {z : List D} {xs : List α} {i : Nat} (h : i < xs.length) : (i : Int) < (↑(fillAt e z xs i).length : Int) := by rw [fillAt_length (by omega)]; omega
theorem fillAt_zero {α : Type} {e : α → List D} {z : List D} {xs : List α} : fillAt e z xs 0 = List.replicate (xs.map e).length z := by simp [fillAt]
theorem fillAt_all {α : Type} {e : α → List D} {z : List D} {xs : List α} : fillAt e z xs xs.length = xs.map e := by simp [fillAt]
theorem fillAt_get {α : Type} {e : α → List D} {z : List D} {xs : List α} {i : Nat} (h : i < xs.length) : (fillAt e z xs i)[((i : Nat) : Int).toNat]? = some z := by
  simp only [fillAt, Int.toNat_natCast]
  rw [List.getElem?_append]
  simp
  rw [if_neg (by omega)]
  rw [List.getElem?_replicate, if_pos (by omega)]
theorem fillAt_set {α : Type} {e : α → List D} {z : List D} {xs : List α} {i : Nat} {a : α} (h : xs[i]? = some a) : (fillAt e z xs i).set ((i : Nat) : Int).toNat (e a) = fillAt e z xs (i + 1) := by
  have hi := lt_of h
  have ha : xs[i] = a := by rw [List.getElem?_eq_getElem hi] at h; exact Option.some.inj h
  simp only [fillAt, Int.toNat_natCast]
  rw [List.set_append]
  simp
  rw [if_neg (by omega), show i - min i xs.length = 0 by omega, show xs.length - i = (xs.length - (i + 1)) + 1 by omega, List.replicate_succ, List.set_cons_zero, List.take_add_one]
  simp [h]

def sumTo {α : Type} (sz : α → Nat) (xs : List α) (i : Nat) : Nat := ((xs.take i).map sz).sum

theorem sumTo_zero {α : Type} {sz : α → Nat} {xs : List α} : sumTo sz xs 0 = 0 := rfl
theorem sumTo_all {α : Type} {sz : α → Nat} {xs : List α} : sumTo sz xs xs.length = (xs.map sz).sum := by simp [sumTo]
theorem sumTo_succ {α : Type} {sz : α → Nat} {xs : List α} {i : Nat} {a : α} (h : xs[i]? = some a) : sumTo sz xs (i + 1) = sumTo sz xs i + sz a := by
  simp [sumTo, List.take_add_one, h]
theorem sumTo_le {α : Type} {sz : α → Nat} {xs : List α} : ∀ {i : Nat}, sumTo sz xs i ≤ (xs.map sz).sum := by
  intro i
  have : xs.map sz = (xs.take i).map sz ++ (xs.drop i).map sz := by rw [← List.map_append, List.take_append_drop]
  rw [this, List.sum_append]
  simp [sumTo]
theorem le_sum {α : Type} {sz : α → Nat} : ∀ {xs : List α} {a : α}, a ∈ xs → sz a ≤ (xs.map sz).sum
  | x :: xs, a, h => by
    rcases List.mem_cons.1 h with rfl | h
    · simp
    · have := le_sum (sz := sz) h
      simp only [List.map_cons, List.sum_cons]
      omega

/-- A sum stays below a bound, or there is a first place where it passes it. -/
theorem first_over {α : Type} (sz : α → Nat) (xs : List α) (m : Int) (h0 : 0 ≤ m) : ((xs.map sz).sum : Int) ≤ m ∨ ∃ (i : Nat) (a : α), xs[i]? = some a ∧ (sumTo sz xs i : Int) ≤ m ∧ m < sumTo sz xs i + sz a ∧ ∀ j, j ≤ i → (sumTo sz xs j : Int) ≤ m := by
  have key : ∀ n, n ≤ xs.length → (sumTo sz xs n : Int) ≤ m ∧ (∀ j, j ≤ n → (sumTo sz xs j : Int) ≤ m) ∨ ∃ (i : Nat) (a : α), xs[i]? = some a ∧ (sumTo sz xs i : Int) ≤ m ∧ m < sumTo sz xs i + sz a ∧ ∀ j, j ≤ i → (sumTo sz xs j : Int) ≤ m := by
    intro n
    induction n with
    | zero => intro _; exact .inl ⟨by simpa [sumTo_zero] using h0, fun j hj => by rw [show j = 0 by omega]; simpa [sumTo_zero] using h0⟩
    | succ n ih =>
      intro hn
      rcases ih (by omega) with ⟨h1, h2⟩ | h
      · obtain ⟨a, ha⟩ := get_of (xs := xs) (i := n) (by omega)
        by_cases hm : (sumTo sz xs (n + 1) : Int) ≤ m
        · refine .inl ⟨hm, fun j hj => ?_⟩
          rcases Nat.lt_or_ge j (n + 1) with h | h
          · exact h2 j (by omega)
          · rw [show j = n + 1 by omega]; exact hm
        · refine .inr ⟨n, a, ha, h1, ?_, h2⟩
          rw [sumTo_succ ha] at hm
          omega
      · exact .inr h
  rcases key xs.length (Nat.le_refl _) with ⟨h, _⟩ | h
  · exact .inl (by rw [← sumTo_all]; exact h)
  · exact .inr h

/-- What is left of a size that may be passed. -/
def leftOf (n : Int) (k : Nat) : Int := if (k : Int) ≤ n then n - k else -1

theorem leftOf_ok {n : Int} {k : Nat} (h : (k : Int) ≤ n) : leftOf n k = n - k := if_pos h
theorem leftOf_neg {n : Int} {k : Nat} (h : n < (k : Int)) : leftOf n k = -1 := if_neg (by omega)

def eI (n : Int) : List D := [I n]
def eB (b : Bool) : List D := [B b]

/-- There is a first one that passes, or none. -/
theorem first_hit {α : Type} (p : α → Bool) : ∀ (xs : List α), (xs.find? p = none ∧ ∀ a ∈ xs, p a = false) ∨ ∃ (i : Nat) (a : α), xs[i]? = some a ∧ p a = true ∧ xs.find? p = some a ∧ ∀ j b, j < i → xs[j]? = some b → p b = false
  | [] => .inl ⟨rfl, by simp⟩
  | a :: xs => by
    by_cases ha : p a = true
    · exact .inr ⟨0, a, rfl, ha, by simp [ha], fun j b hj => by omega⟩
    · have ha' : p a = false := by simpa using ha
      rcases first_hit p xs with ⟨h, h2⟩ | ⟨i, x, h1, h2, h4, h3⟩
      · refine .inl ⟨by simp [ha', h], fun b hb => ?_⟩
        rcases List.mem_cons.1 hb with rfl | hb
        · exact ha'
        · exact h2 b hb
      · refine .inr ⟨i + 1, x, by simpa using h1, h2, by simp [ha', h4], fun j b hj hb => ?_⟩
        cases j with
        | zero => simp at hb; subst hb; exact ha'
        | succ j => exact h3 j b (by omega) (by simpa using hb)

/-- What a loop over a list has gathered behind so many rounds. -/
def foldTo {α β : Type} (f : β → α → β) (b : β) (xs : List α) (i : Nat) : β := (xs.take i).foldl f b
theorem foldTo_succ {α β : Type} {f : β → α → β} {b : β} {xs : List α} {i : Nat} {a : α} (h : xs[i]? = some a) : foldTo f b xs (i + 1) = f (foldTo f b xs i) a := by
  simp [foldTo, List.take_add_one, h, List.foldl_append]
theorem foldTo_all {α β : Type} {f : β → α → β} {b : β} {xs : List α} : foldTo f b xs xs.length = xs.foldl f b := by simp [foldTo]
theorem foldTo_zero {α β : Type} {f : β → α → β} {b : β} {xs : List α} : foldTo f b xs 0 = b := rfl

def wrp (n : Int) : Int := IntKind.i64.wrap n

theorem filter_take {α : Type} (p : α → Bool) {xs : List α} {i : Nat} {a : α} (h : xs[i]? = some a) : (xs.take (i + 1)).filter p = (xs.take i).filter p ++ (if p a then [a] else []) := by
  simp only [List.take_add_one, h, Option.toList_some, List.filter_append, List.filter_cons, List.filter_nil]

theorem flat_map {α : Type} (f : α → List D) (h : ∀ a, ∀ d ∈ f a, ∃ x, d = .v x) (xs : List α) : Flat (xs.map f) := by
  intro e he d hd
  obtain ⟨a, _, rfl⟩ := List.mem_map.1 he
  exact h a d hd
theorem flat_one {e : List D} (h : ∀ d ∈ e, ∃ x, d = .v x) : Flat [e] := by
  intro e' he; simp at he; subst he; exact h
end Go.Proofs.Ytcdpehhhkfdoaaa
