/- Plain laws of orders and of sorting by insertion. -/
import Derived.Test.YtialmplmfcahpaaGreatC1
import Derived.Sort.Statements
import Derived.Shelf.SlSortCmp.Insertion
set_option linter.unusedVariables false
set_option linter.unusedSimpArgs false
namespace Go.Proofs.YtialmplmfcahpaaGreat
open Go.Sx Go.RowKit Go.Sort
def cmpL (u v : List Int) : Int := lexN (List.zipWith ord3 u v)
theorem qdc (d : Int) (l : List Int) : lexN (d :: l) = if d = 0 then lexN l else d := by
  unfold lexN
  by_cases h : d = 0
  · simp [h]
  · simp [h]
theorem qlN : ∀ (l1 l2 : List Int), lexN (lexN l1 :: l2) = lexN (l1 ++ l2)
  | [], l2 => by rw [qdc]; simp [lexN]
  | d :: l1, l2 => by
    rw [List.cons_append, qdc d (l1 ++ l2), qdc d l1]
    by_cases h : d = 0
    · rw [if_pos h, if_pos h]; exact qlN l1 l2
    · rw [if_neg h, if_neg h, qdc, if_neg h]
theorem qvU (a b : Int) (u v : List Int) : cmpL (a :: u) (b :: v) = if a = b then cmpL u v else ord3 a b := by
  unfold cmpL
  rw [List.zipWith_cons_cons, qdc]
  have : ord3 a b = 0 ↔ a = b := by unfold ord3; split <;> (try split) <;> constructor <;> intro h <;> omega
  by_cases h : a = b
  · rw [if_pos (this.2 h), if_pos h]
  · rw [if_neg (fun e => h (this.1 e)), if_neg h]
theorem qgy (a b : Int) (u v : List Int) : cmpL (a :: u) (b :: v) < 0 ↔ a < b ∨ (a = b ∧ cmpL u v < 0) := by
  rw [qvU]
  split
  · constructor
    · intro h; exact .inr ⟨‹_›, h⟩
    · rintro (h | h)
      · omega
      · exact h.2
  · unfold ord3
    split <;> (try split) <;> constructor <;> intro h <;> omega
theorem qlO : ∀ u : List Int, ¬ cmpL u u < 0
  | [] => by simp [cmpL, lexN]
  | a :: u => by rw [qgy]; have := qlO u; omega
theorem qlP : ∀ (u v w : List Int), u.length = v.length → v.length = w.length → cmpL u v < 0 → cmpL v w < 0 → cmpL u w < 0
  | [], [], [], _, _, h, _ => h
  | a :: u, b :: v, c :: w, h1, h2, h3, h4 => by
    rw [qgy] at *
    have := qlP u v w (by simpa using h1) (by simpa using h2)
    omega
theorem qlQ : ∀ (u v w : List Int), u.length = v.length → v.length = w.length → ¬ cmpL u v < 0 → ¬ cmpL v w < 0 → ¬ cmpL u w < 0
  | [], [], [], _, _, h, _ => h
  | a :: u, b :: v, c :: w, h1, h2, h3, h4 => by
    rw [qgy] at *
    have := qlQ u v w (by simpa using h1) (by simpa using h2)
    omega
theorem qlR : ∀ (u v : List Int), u.length = v.length → ¬ cmpL u v < 0 → ¬ cmpL v u < 0 → u = v
  | [], [], _, _, _ => rfl
  | a :: u, b :: v, h1, h3, h4 => by
    rw [qgy] at h3 h4
    have hab : a = b := by omega
    subst hab
    rw [qlR u v (by simpa using h1) (by omega) (by omega)]
theorem qvV {α : Type} (key : α → List Int) (n : Nat) (hn : ∀ a, (key a).length = n) : SWO (ltOf fun a b => cmpL (key a) (key b)) where
  irrefl x := by simp only [ltOf, decide_eq_false_iff_not]; exact qlO _
  trans x y z h1 h2 := by
    simp only [ltOf, decide_eq_true_eq] at *
    exact qlP _ _ _ (by rw [hn, hn]) (by rw [hn, hn]) h1 h2
  ntrans x y z h1 h2 := by
    simp only [ltOf, decide_eq_false_iff_not] at *
    exact qlQ _ _ _ (by rw [hn, hn]) (by rw [hn, hn]) h1 h2
theorem qvW {α : Type} (key : α → List Int) (n : Nat) (hn : ∀ a, (key a).length = n) (hi : ∀ a b, key a = key b → a = b) (x y : α) (h1 : (ltOf fun a b => cmpL (key a) (key b)) x y = false) (h2 : (ltOf fun a b => cmpL (key a) (key b)) y x = false) : x = y := by
  simp only [ltOf, decide_eq_false_iff_not] at *
  exact hi _ _ (qlR _ _ (by rw [hn, hn]) h1 h2)
section
variable {α : Type}
def plc (lt : α → α → Bool) (x : α) (S : List α) : Nat → Nat
  | 0 => 0
  | k + 1 => match S[k]? with | some y => if lt x y then plc lt x S k else k + 1 | none => k + 1
def insR (lt : α → α → Bool) (S : List α) (x : α) : List α := S.take (plc lt x S S.length) ++ x :: S.drop (plc lt x S S.length)
def sortI (lt : α → α → Bool) (xs : List α) : List α := xs.foldl (insR lt) []
theorem qjh (lt : α → α → Bool) (x : α) (S : List α) : ∀ k, plc lt x S k ≤ k
  | 0 => Nat.le_refl _
  | k + 1 => by
    simp only [plc]
    have := qjh lt x S k
    split
    · split <;> omega
    · omega
theorem qlS (lt : α → α → Bool) (x : α) (S : List α) : ∀ k j y, plc lt x S k ≤ j → j < k → S[j]? = some y → lt x y = true
  | 0, j, y, _, h, _ => by omega
  | k + 1, j, y, h1, h2, hy => by
    simp only [plc] at h1
    split at h1
    · rename_i z hz
      split at h1
      · rename_i hl
        by_cases e : j = k
        · subst e; rw [hz] at hy; cases hy; exact hl
        · exact qlS lt x S k j y h1 (by omega) hy
      · omega
    · omega
theorem qlT (lt : α → α → Bool) (x : α) (S : List α) : ∀ k y, 0 < plc lt x S k → S[plc lt x S k - 1]? = some y → lt x y = false
  | 0, y, h, _ => by simp [plc] at h
  | k + 1, y, h, hy => by
    simp only [plc] at h hy
    split at h
    · rename_i z hz
      simp only [hz] at hy
      split at h
      · rename_i hl
        rw [if_pos hl] at hy
        exact qlT lt x S k y h hy
      · rename_i hl
        rw [if_neg hl, Nat.add_sub_cancel, hz] at hy
        cases hy
        simpa using hl
    · rename_i hz
      simp only [hz] at hy
      rw [Nat.add_sub_cancel, hz] at hy
      cases hy
theorem qlU (lt : α → α → Bool) (S : List α) (x : α) : (insR lt S x).Perm (x :: S) := by
  unfold insR
  refine (List.perm_middle).trans ?_
  rw [List.take_append_drop]
theorem qvX (lt : α → α → Bool) (S : List α) (x : α) : (insR lt S x).length = S.length + 1 := (qlU lt S x).length_eq
abbrev SortedL (lt : α → α → Bool) (S : List α) : Prop := S.Pairwise fun a b => (!lt b a) = true
theorem qvY {lt : α → α → Bool} (hO : SWO lt) {S : List α} (hS : SortedL lt S) (x : α) : SortedL lt (insR lt S x) := by
  have asym : ∀ a b, lt a b = true → lt b a = false := by
    intro a b h
    cases h2 : lt b a with
    | false => rfl
    | true => have := hO.trans _ _ _ h h2; rw [hO.irrefl] at this; cases this
  unfold insR
  obtain ⟨p, hp⟩ : ∃ p, p = plc lt x S S.length := ⟨_, rfl⟩
  have hple := qjh lt x S S.length
  have habove := qlS lt x S S.length
  have hbelow := qlT lt x S S.length
  rw [← hp] at hple habove hbelow ⊢
  have h0 : S.take p ++ S.drop p = S := List.take_append_drop _ _
  have hS2 := hS
  unfold SortedL at hS2
  rw [← h0, List.pairwise_append] at hS2
  obtain ⟨h1, h2, h3⟩ := hS2
  have hxd : ∀ b ∈ S.drop p, lt x b = true := by
    intro b hb
    obtain ⟨j, hj⟩ := List.mem_iff_getElem?.1 hb
    rw [List.getElem?_drop] at hj
    exact habove (p + j) b (by omega) (List.getElem?_eq_some_iff.1 hj).1 hj
  have hax : ∀ a ∈ S.take p, lt x a = false := by
    intro a ha
    obtain ⟨j, hj⟩ := List.mem_iff_getElem?.1 ha
    rw [List.getElem?_take] at hj
    split at hj
    · rename_i hjp
      have hpl : p - 1 < S.length := by omega
      have hb := hbelow S[p - 1] (by omega) (List.getElem?_eq_getElem hpl)
      by_cases e : j = p - 1
      · subst e
        rw [List.getElem?_eq_getElem hpl] at hj
        cases hj
        exact hb
      · have hjl : j < S.length := by omega
        have := List.pairwise_iff_getElem.1 hS j (p - 1) hjl hpl (by omega)
        rw [List.getElem?_eq_getElem hjl] at hj
        cases hj
        exact hO.ntrans _ _ _ hb (by simpa using this)
    · cases hj
  unfold SortedL
  rw [List.pairwise_append]
  refine ⟨h1, List.pairwise_cons.2 ⟨fun b hb => by simp [asym _ _ (hxd b hb)], h2⟩, fun a ha b hb => ?_⟩
  rcases List.mem_cons.1 hb with rfl | hb
  · simp [hax a ha]
  · exact h3 a ha b hb
theorem qji {lt : α → α → Bool} (hO : SWO lt) : ∀ (xs S : List α), SortedL lt S → SortedL lt (xs.foldl (insR lt) S) ∧ (xs.foldl (insR lt) S).Perm (S ++ xs)
  | [], S, h => ⟨h, by simp⟩
  | x :: xs, S, h => by
    obtain ⟨h1, h2⟩ := qji hO xs (insR lt S x) (qvY hO h x)
    refine ⟨h1, h2.trans ?_⟩
    refine ((qlU lt S x).append_right xs).trans ?_
    exact (List.perm_middle (l₁ := S) (a := x) (l₂ := xs)).symm
theorem qvZ {lt : α → α → Bool} (hO : SWO lt) (hT : ∀ x y, lt x y = false → lt y x = false → x = y) (xs : List α) : sortI lt xs = xs.mergeSort fun x y => !lt y x := by
  obtain ⟨h1, h2⟩ := qji hO xs [] List.Pairwise.nil
  refine List.Perm.eq_of_pairwise (le := fun x y => (!lt y x) = true) ?_ h1 ?_ ((show (sortI lt xs).Perm xs from h2).trans (List.mergeSort_perm _ _).symm)
  · intro a b _ _ h3 h4
    simp only [Bool.not_eq_true'] at h3 h4
    exact hT a b h4 h3
  · refine List.pairwise_mergeSort (le := fun x y => !lt y x) ?_ ?_ xs
    · intro a b c h3 h4
      simp only [Bool.not_eq_true'] at h3 h4 ⊢
      exact hO.ntrans _ _ _ h4 h3
    · intro a b
      simp only [Bool.or_eq_true, Bool.not_eq_true']
      cases h3 : lt b a with
      | false => exact .inl rfl
      | true =>
        right
        cases h4 : lt a b with
        | false => rfl
        | true => have := hO.trans _ _ _ h3 h4; rw [hO.irrefl] at this; cases this
theorem qv0 (lt : α → α → Bool) {xs : List α} {i : Nat} {a : α} (h : xs[i]? = some a) : sortI lt (xs.take (i + 1)) = insR lt (sortI lt (xs.take i)) a := by
  simp [sortI, List.take_add_one, h, List.foldl_append]
theorem qjj (lt : α → α → Bool) : ∀ (xs S : List α), (xs.foldl (insR lt) S).length = S.length + xs.length
  | [], S => rfl
  | x :: xs, S => by
    rw [List.foldl_cons, qjj lt xs, qvX, List.length_cons]
    omega
end
end Go.Proofs.YtialmplmfcahpaaGreat
