/- Plain lemmas for loops over lists, and how they are read as data. -/
import Derived.Test.YtialmplmfcahpaaGreatRows
import Derived.Test.YtialmplmfcahpaaGreatR15
set_option linter.unusedVariables false
set_option linter.unusedSimpArgs false
namespace Go.Proofs.YtialmplmfcahpaaGreat
open Go.Sx Go.RowKit
theorem qaj {P : Program} {c : Code} {e : Ex} {stE : St} (he : e.exit' ≠ .normal) : ∀ (n : Nat) (st : Nat → St), (∀ i, i < n → Tr P c (st i) .normal (st (i + 1))) → Tr P c (st n) e stE → qac P c (st 0) e stE
  | 0, _, _, hx => .last he hx
  | n + 1, st, hs, hx => .more (hs 0 (by omega)) (qaj he n (fun i => st (i + 1)) (fun i hi => hs (i + 1) (by omega)) hx)
theorem qae {α β : Type} {xs : List α} {i : Nat} {a : α} (f : α → β) (h : xs[i]? = some a) : (xs.map f)[((i : Nat) : Int).toNat]? = some (f a) := by simp [h]
theorem lt1 {α β : Type} {xs : List α} {f : α → β} {i : Nat} (h : i < xs.length) : decide ((i : Int) < (↑(xs.map f).length : Int)) = true := by simp only [List.length_map, decide_eq_true_eq]; omega
theorem ge1 {α β : Type} {xs : List α} {f : α → β} : decide ((↑xs.length : Int) < (↑(xs.map f).length : Int)) = false := by simp
theorem lt0 {i : Nat} : 0 ≤ (i : Int) := by omega
theorem lt2 {α β : Type} {xs : List α} {f : α → β} {i : Nat} (h : i < xs.length) : (i : Int) < (↑(xs.map f).length : Int) := by simp only [List.length_map]; omega
theorem up1 {α : Type} {xs : List α} {i : Nat} (h : i < xs.length) (hl : xs.length ≤ 1048576) : inInt IntKind.i64 ((i : Int) + 1) := ⟨by omega, by omega⟩
theorem upM {α : Type} {xs : List α} {i : Nat} (h : i < xs.length) (hl : (xs.length : Int) ≤ 9223372036854775807) : inInt IntKind.i64 ((i : Int) + 1) := ⟨by omega, by omega⟩
theorem qag {α : Type} {xs : List α} {i : Nat} (h : i < xs.length) : ∃ a, xs[i]? = some a := ⟨xs[i], by simp [h]⟩
theorem lt_of {α : Type} {xs : List α} {i : Nat} {a : α} (h : xs[i]? = some a) : i < xs.length := (List.getElem?_eq_some_iff.1 h).1
theorem qaG {α : Type} {xs : List α} {i : Nat} {a : α} (h : xs[i]? = some a) : a ∈ xs := List.mem_of_getElem? h
theorem qbP {α : Type} [DecidableEq α] : ∀ (xs ys : List α), xs.length = ys.length → xs = ys ∨ ∃ (i : Nat) (a b : α), xs[i]? = some a ∧ ys[i]? = some b ∧ a ≠ b ∧ ∀ j, j < i → xs[j]? = ys[j]?
  | [], [], _ => .inl rfl
  | a :: xs, b :: ys, h => by
    by_cases hab : a = b
    · subst hab
      rcases qbP xs ys (by simpa using h) with rfl | ⟨i, x, y, h1, h2, h3, h4⟩
      · exact .inl rfl
      · refine .inr ⟨i + 1, x, y, by simpa using h1, by simpa using h2, h3, fun j hj => ?_⟩
        cases j with
        | zero => simp
        | succ j => simpa using h4 j (by omega)
    · exact .inr ⟨0, a, b, rfl, rfl, hab, fun j hj => by omega⟩
  | [], b :: ys, h => by simp at h
  | a :: xs, [], h => by simp at h
def qau {α : Type} (e : α → List D) (z : List D) (xs : List α) (i : Nat) : List (List D) := (xs.take i).map e ++ List.replicate (xs.length - i) z
theorem qol {α : Type} {e : α → List D} {z : List D} {xs : List α} {i : Nat} (h : i ≤ xs.length) : (qau e z xs i).length = xs.length := by simp [qau]; omega
theorem qcb {α : Type} {e : α → List D} {z : List D} {xs : List α} {i : Nat} (h : i < xs.length) : (i : Int) < (↑(qau e z xs i).length : Int) := by rw [qol (by omega)]; omega
theorem qcc {α : Type} {e : α → List D} {z : List D} {xs : List α} : qau e z xs 0 = List.replicate (xs.map e).length z := by simp [qau]
theorem qcd {α : Type} {e : α → List D} {z : List D} {xs : List α} : qau e z xs xs.length = xs.map e := by simp [qau]
theorem qce {α : Type} {e : α → List D} {z : List D} {xs : List α} {i : Nat} (h : i < xs.length) : (qau e z xs i)[((i : Nat) : Int).toNat]? = some z := by
  simp only [qau, Int.toNat_natCast]
  rw [List.getElem?_append]
  simp
  rw [if_neg (by omega)]
  rw [List.getElem?_replicate, if_pos (by omega)]
theorem qcf {α : Type} {e : α → List D} {z : List D} {xs : List α} {i : Nat} {a : α} (h : xs[i]? = some a) : (qau e z xs i).set ((i : Nat) : Int).toNat (e a) = qau e z xs (i + 1) := by
  have hi := lt_of h
  have ha : xs[i] = a := by rw [List.getElem?_eq_getElem hi] at h; exact Option.some.inj h
  simp only [qau, Int.toNat_natCast]
  rw [List.set_append]
  simp
  rw [if_neg (by omega), show i - min i xs.length = 0 by omega, show xs.length - i = (xs.length - (i + 1)) + 1 by omega, List.replicate_succ, List.set_cons_zero, List.take_add_one]
  simp [h]
def sumTo {α : Type} (sz : α → Nat) (xs : List α) (i : Nat) : Nat := ((xs.take i).map sz).sum
theorem qc6 {α : Type} {sz : α → Nat} {xs : List α} : sumTo sz xs 0 = 0 := rfl
theorem qf0 {α : Type} {sz : α → Nat} {xs : List α} : sumTo sz xs xs.length = (xs.map sz).sum := by simp [sumTo]
theorem qc7 {α : Type} {sz : α → Nat} {xs : List α} {i : Nat} {a : α} (h : xs[i]? = some a) : sumTo sz xs (i + 1) = sumTo sz xs i + sz a := by
  simp [sumTo, List.take_add_one, h]
theorem qdw {α : Type} {sz : α → Nat} {xs : List α} : ∀ {i : Nat}, sumTo sz xs i ≤ (xs.map sz).sum := by
  intro i
  have : xs.map sz = (xs.take i).map sz ++ (xs.drop i).map sz := by rw [← List.map_append, List.take_append_drop]
  rw [this, List.sum_append]
  simp [sumTo]
theorem qcQ {α : Type} {sz : α → Nat} : ∀ {xs : List α} {a : α}, a ∈ xs → sz a ≤ (xs.map sz).sum
  | x :: xs, a, h => by
    rcases List.mem_cons.1 h with rfl | h
    · simp
    · have := qcQ (sz := sz) h
      simp only [List.map_cons, List.sum_cons]
      omega
theorem qig {α : Type} (sz : α → Nat) (xs : List α) (m : Int) (h0 : 0 ≤ m) : ((xs.map sz).sum : Int) ≤ m ∨ ∃ (i : Nat) (a : α), xs[i]? = some a ∧ (sumTo sz xs i : Int) ≤ m ∧ m < sumTo sz xs i + sz a ∧ ∀ j, j ≤ i → (sumTo sz xs j : Int) ≤ m := by
  have key : ∀ n, n ≤ xs.length → (sumTo sz xs n : Int) ≤ m ∧ (∀ j, j ≤ n → (sumTo sz xs j : Int) ≤ m) ∨ ∃ (i : Nat) (a : α), xs[i]? = some a ∧ (sumTo sz xs i : Int) ≤ m ∧ m < sumTo sz xs i + sz a ∧ ∀ j, j ≤ i → (sumTo sz xs j : Int) ≤ m := by
    intro n
    induction n with
    | zero => intro _; exact .inl ⟨by simpa [qc6] using h0, fun j hj => by rw [show j = 0 by omega]; simpa [qc6] using h0⟩
    | succ n ih =>
      intro hn
      rcases ih (by omega) with ⟨h1, h2⟩ | h
      · obtain ⟨a, ha⟩ := qag (xs := xs) (i := n) (by omega)
        by_cases hm : (sumTo sz xs (n + 1) : Int) ≤ m
        · refine .inl ⟨hm, fun j hj => ?_⟩
          rcases Nat.lt_or_ge j (n + 1) with h | h
          · exact h2 j (by omega)
          · rw [show j = n + 1 by omega]; exact hm
        · refine .inr ⟨n, a, ha, h1, ?_, h2⟩
          rw [qc7 ha] at hm
          omega
      · exact .inr h
  rcases key xs.length (Nat.le_refl _) with ⟨h, _⟩ | h
  · exact .inl (by rw [← qf0]; exact h)
  · exact .inr h
def qaK (n : Int) (k : Nat) : Int := if (k : Int) ≤ n then n - k else -1
theorem qaL {n : Int} {k : Nat} (h : (k : Int) ≤ n) : qaK n k = n - k := if_pos h
theorem qav {n : Int} {k : Nat} (h : n < (k : Int)) : qaK n k = -1 := if_neg (by omega)
def eI (n : Int) : List D := [I n]
def eB (b : Bool) : List D := [B b]
theorem qk8 {α : Type} (p : α → Bool) : ∀ (xs : List α), (xs.find? p = none ∧ ∀ a ∈ xs, p a = false) ∨ ∃ (i : Nat) (a : α), xs[i]? = some a ∧ p a = true ∧ xs.find? p = some a ∧ ∀ j b, j < i → xs[j]? = some b → p b = false
  | [] => .inl ⟨rfl, by simp⟩
  | a :: xs => by
    by_cases ha : p a = true
    · exact .inr ⟨0, a, rfl, ha, by simp [ha], fun j b hj => by omega⟩
    · have ha' : p a = false := by simpa using ha
      rcases qk8 p xs with ⟨h, h2⟩ | ⟨i, x, h1, h2, h4, h3⟩
      · refine .inl ⟨by simp [ha', h], fun b hb => ?_⟩
        rcases List.mem_cons.1 hb with rfl | hb
        · exact ha'
        · exact h2 b hb
      · refine .inr ⟨i + 1, x, by simpa using h1, h2, by simp [ha', h4], fun j b hj hb => ?_⟩
        cases j with
        | zero => simp at hb; subst hb; exact ha'
        | succ j => exact h3 j b (by omega) (by simpa using hb)
def qa7 {α β : Type} (f : β → α → β) (b : β) (xs : List α) (i : Nat) : β := (xs.take i).foldl f b
theorem qf1 {α β : Type} {f : β → α → β} {b : β} {xs : List α} {i : Nat} {a : α} (h : xs[i]? = some a) : qa7 f b xs (i + 1) = f (qa7 f b xs i) a := by
  simp [qa7, List.take_add_one, h, List.foldl_append]
theorem qf2 {α β : Type} {f : β → α → β} {b : β} {xs : List α} : qa7 f b xs xs.length = xs.foldl f b := by simp [qa7]
theorem qcg {α : Type} (p : α → Bool) {xs : List α} {i : Nat} {a : α} (h : xs[i]? = some a) : (xs.take (i + 1)).filter p = (xs.take i).filter p ++ (if p a then [a] else []) := by
  simp only [List.take_add_one, h, Option.toList_some, List.filter_append, List.filter_cons, List.filter_nil]
theorem qaf {α : Type} (f : α → List D) (h : ∀ a, ∀ d ∈ f a, ∃ x, d = .v x) (xs : List α) : Flat (xs.map f) := by
  intro e he d hd
  obtain ⟨a, _, rfl⟩ := List.mem_map.1 he
  exact h a d hd
theorem qat {e : List D} (h : ∀ d ∈ e, ∃ x, d = .v x) : Flat [e] := by
  intro e' he; simp at he; subst he; exact h
theorem qbB {P : Program} {c : Code} {α : Type} (xs : List α) (p : α → Bool) (st : Nat → St) {e1 e2 : Ex} {X : Nat → α → St} {Y : St} (he1 : e1.exit' ≠ .normal) (he2 : e2.exit' ≠ .normal)
    (hgo : ∀ i a, xs[i]? = some a → p a = false → Tr P c (st i) .normal (st (i + 1))) (hhit : ∀ i a, xs[i]? = some a → p a = true → Tr P c (st i) e1 (X i a)) (hend : Tr P c (st xs.length) e2 Y) :
    (xs.find? p = none ∧ xs.findIdx? p = none ∧ xs.any p = false ∧ qac P c (st 0) e2 Y) ∨ ∃ i a, xs[i]? = some a ∧ p a = true ∧ xs.find? p = some a ∧ xs.findIdx? p = some i ∧ xs.any p = true ∧ qac P c (st 0) e1 (X i a) := by
  rcases qk8 p xs with ⟨h1, h2⟩ | ⟨i, a, h1, h2, h3, h4⟩
  · refine .inl ⟨h1, ?_, ?_, qaj he2 xs.length st (fun i hi => ?_) hend⟩
    · rw [List.findIdx?_eq_none_iff]; exact h2
    · rw [List.any_eq_false]; exact fun a ha => by simp [h2 a ha]
    · obtain ⟨a, ha⟩ := qag hi
      exact hgo i a ha (h2 a (qaG ha))
  · refine .inr ⟨i, a, h1, h2, h3, ?_, List.any_eq_true.2 ⟨a, qaG h1, h2⟩, qaj he1 i st (fun j hj => ?_) (hhit i a h1 h2)⟩
    · have hi := lt_of h1
      have ha : xs[i] = a := by rw [List.getElem?_eq_getElem hi] at h1; exact Option.some.inj h1
      rw [List.findIdx?_eq_some_iff_getElem]
      refine ⟨hi, by rw [ha]; exact h2, fun j hj => ?_⟩
      have := h4 j xs[j] hj (by simp)
      simp [this]
    · obtain ⟨b, hb⟩ := qag (xs := xs) (i := j) (by have := lt_of h1; omega)
      exact hgo j b hb (h4 j b hj hb)
def anyI {α : Type} (p : Nat → α → Bool) : Nat → List α → Bool
  | _, [] => false
  | k, a :: r => p k a || anyI p (k + 1) r
theorem qih {α : Type} {p : Nat → α → Bool} : ∀ {xs : List α} {k : Nat}, anyI p k xs = false → ∀ i a, xs[i]? = some a → p (k + i) a = false
  | [], k, _, i, a, h => by simp at h
  | x :: xs, k, h, i, a, ha => by
    simp only [anyI, Bool.or_eq_false_iff] at h
    cases i with
    | zero => simp at ha; subst ha; exact h.1
    | succ i =>
      have := qih h.2 i a (by simpa using ha)
      rwa [show k + 1 + i = k + (i + 1) by omega] at this
theorem qk9 {α : Type} {p : Nat → α → Bool} : ∀ {xs : List α} {k : Nat}, anyI p k xs = true → ∃ i a, xs[i]? = some a ∧ p (k + i) a = true ∧ ∀ j b, j < i → xs[j]? = some b → p (k + j) b = false
  | [], k, h => by simp [anyI] at h
  | x :: xs, k, h => by
    by_cases hx : p k x = true
    · exact ⟨0, x, rfl, hx, fun j b hj => by omega⟩
    · simp only [anyI, Bool.or_eq_true] at h
      obtain ⟨i, a, h1, h2, h3⟩ := qk9 (h.resolve_left hx)
      refine ⟨i + 1, a, by simpa using h1, by rw [show k + (i + 1) = k + 1 + i by omega]; exact h2, fun j b hj hb => ?_⟩
      cases j with
      | zero => simp at hb; subst hb; simpa using hx
      | succ j => rw [show k + (j + 1) = k + 1 + j by omega]; exact h3 j b (by omega) (by simpa using hb)
theorem qf3 {P : Program} {c : Code} {α : Type} (xs : List α) (p : Nat → α → Bool) (st : Nat → St) {e1 e2 : Ex} {X Y : St} (he1 : e1.exit' ≠ .normal) (he2 : e2.exit' ≠ .normal)
    (hgo : ∀ i a, xs[i]? = some a → p i a = false → Tr P c (st i) .normal (st (i + 1))) (hhit : ∀ i a, xs[i]? = some a → p i a = true → Tr P c (st i) e1 X) (hend : Tr P c (st xs.length) e2 Y) :
    (anyI p 0 xs = false ∧ qac P c (st 0) e2 Y) ∨ (anyI p 0 xs = true ∧ qac P c (st 0) e1 X) := by
  cases h : anyI p 0 xs with
  | false =>
    refine .inl ⟨rfl, qaj he2 xs.length st (fun i hi => ?_) hend⟩
    obtain ⟨a, ha⟩ := qag hi
    have := qih h i a ha
    rw [Nat.zero_add] at this
    exact hgo i a ha this
  | true =>
    obtain ⟨i, a, h1, h2, h3⟩ := qk9 h
    rw [Nat.zero_add] at h2
    refine .inr ⟨rfl, qaj he1 i st (fun j hj => ?_) (hhit i a h1 h2)⟩
    obtain ⟨b, hb⟩ := qag (xs := xs) (i := j) (by have := lt_of h1; omega)
    have := h3 j b hj hb
    rw [Nat.zero_add] at this
    exact hgo j b hb this
end Go.Proofs.YtialmplmfcahpaaGreat
