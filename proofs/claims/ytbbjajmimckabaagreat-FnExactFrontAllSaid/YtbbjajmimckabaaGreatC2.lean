/- Plain laws of orders and of sorting by insertion. -/
import Derived.Test.YtbbjajmimckabaaGreatC1
import Derived.Sort.Statements
import Derived.Shelf.SlSortCmp.Insertion
set_option linter.unusedVariables false
set_option linter.unusedSimpArgs false
namespace Go.Proofs.YtbbjajmimckabaaGreat
open Go.Sx Go.RowKit Go.Sort

def cmpL (u v : List Int) : Int := lexN (List.zipWith ord3 u v)

theorem lexN_cons (d : Int) (l : List Int) : lexN (d :: l) = if d = 0 then lexN l else d := by
  unfold lexN
  by_cases h : d = 0
  · simp [h]
  · simp [h]

theorem lexN_app : ∀ (l1 l2 : List Int), lexN (lexN l1 :: l2) = lexN (l1 ++ l2)
  | [], l2 => by rw [lexN_cons]; simp [lexN]
  | d :: l1, l2 => by
    rw [List.cons_append, lexN_cons d (l1 ++ l2), lexN_cons d l1]
    by_cases h : d = 0
    · rw [if_pos h, if_pos h]; exact lexN_app l1 l2
    · rw [if_neg h, if_neg h, lexN_cons, if_neg h]

theorem cmpL_cons (a b : Int) (u v : List Int) : cmpL (a :: u) (b :: v) = if a = b then cmpL u v else ord3 a b := by
  unfold cmpL
  rw [List.zipWith_cons_cons, lexN_cons]
  have : ord3 a b = 0 ↔ a = b := by unfold ord3; split <;> (try split) <;> constructor <;> intro h <;> omega
  by_cases h : a = b
  · rw [if_pos (this.2 h), if_pos h]
  · rw [if_neg (fun e => h (this.1 e)), if_neg h]

theorem cmpL_lt (a b : Int) (u v : List Int) : cmpL (a :: u) (b :: v) < 0 ↔ a < b ∨ (a = b ∧ cmpL u v < 0) := by
  rw [cmpL_cons]
  split
  · constructor
    · intro h; exact .inr ⟨‹_›, h⟩
    · rintro (h | h)
      · omega
      · exact h.2
  · unfold ord3
    split <;> (try split) <;> constructor <;> intro h <;> omega

theorem cmpL_irrefl : ∀ u : List Int, ¬ cmpL u u < 0
  | [] => by simp [cmpL, lexN]
  | a :: u => by rw [cmpL_lt]; have := cmpL_irrefl u; omega

theorem cmpL_trans : ∀ (u v w : List Int), u.length = v.length → v.length = w.length → cmpL u v < 0 → cmpL v w < 0 → cmpL u w < 0
  | [], [], [], _, _, h, _ => h
  | a :: u, b :: v, c :: w, h1, h2, h3, h4 => by
    rw [cmpL_lt] at *
    have := cmpL_trans u v w (by simpa using h1) (by simpa using h2)
    omega

theorem cmpL_ntrans : ∀ (u v w : List Int), u.length = v.length → v.length = w.length → ¬ cmpL u v < 0 → ¬ cmpL v w < 0 → ¬ cmpL u w < 0
  | [], [], [], _, _, h, _ => h
  | a :: u, b :: v, c :: w, h1, h2, h3, h4 => by
    rw [cmpL_lt] at *
    have := cmpL_ntrans u v w (by simpa using h1) (by simpa using h2)
    omega

theorem cmpL_eq : ∀ (u v : List Int), u.length = v.length → ¬ cmpL u v < 0 → ¬ cmpL v u < 0 → u = v
  | [], [], _, _, _ => rfl
  | a :: u, b :: v, h1, h3, h4 => by
    rw [cmpL_lt] at h3 h4
    have hab : a = b := by omega
    subst hab
    rw [cmpL_eq u v (by simpa using h1) (by omega) (by omega)]

/-- An order by keys of one length. -/
theorem swo_of {α : Type} (key : α → List Int) (n : Nat) (hn : ∀ a, (key a).length = n) : SWO (ltOf fun a b => cmpL (key a) (key b)) where
  irrefl x := by simp only [ltOf, decide_eq_false_iff_not]; exact cmpL_irrefl _
  trans x y z h1 h2 := by
    simp only [ltOf, decide_eq_true_eq] at *
    exact cmpL_trans _ _ _ (by rw [hn, hn]) (by rw [hn, hn]) h1 h2
  ntrans x y z h1 h2 := by
    simp only [ltOf, decide_eq_false_iff_not] at *
    exact cmpL_ntrans _ _ _ (by rw [hn, hn]) (by rw [hn, hn]) h1 h2

theorem total_of {α : Type} (key : α → List Int) (n : Nat) (hn : ∀ a, (key a).length = n) (hi : ∀ a b, key a = key b → a = b) (x y : α) (h1 : (ltOf fun a b => cmpL (key a) (key b)) x y = false) (h2 : (ltOf fun a b => cmpL (key a) (key b)) y x = false) : x = y := by
  simp only [ltOf, decide_eq_false_iff_not] at *
  exact hi _ _ (cmpL_eq _ _ (by rw [hn, hn]) h1 h2)

/-! ### Sorting by insertion -/
section
variable {α : Type}

/-- The place of x, looked for from place k down. -/
def plc (lt : α → α → Bool) (x : α) (S : List α) : Nat → Nat
  | 0 => 0
  | k + 1 => match S[k]? with | some y => if lt x y then plc lt x S k else k + 1 | none => k + 1

def insR (lt : α → α → Bool) (S : List α) (x : α) : List α := S.take (plc lt x S S.length) ++ x :: S.drop (plc lt x S S.length)
def sortI (lt : α → α → Bool) (xs : List α) : List α := xs.foldl (insR lt) []

theorem plc_le (lt : α → α → Bool) (x : α) (S : List α) : ∀ k, plc lt x S k ≤ k
  | 0 => Nat.le_refl _
  | k + 1 => by
    simp only [plc]
    have := plc_le lt x S k
    split
    · split <;> omega
    · omega

theorem plc_above (lt : α → α → Bool) (x : α) (S : List α) : ∀ k j y, plc lt x S k ≤ j → j < k → S[j]? = some y → lt x y = true
  | 0, j, y, _, h, _ => by omega
  | k + 1, j, y, h1, h2, hy => by
    simp only [plc] at h1
    split at h1
    · rename_i z hz
      split at h1
      · rename_i hl
        by_cases e : j = k
        · subst e; rw [hz] at hy; cases hy; exact hl
        · exact plc_above lt x S k j y h1 (by omega) hy
      · omega
    · omega

theorem plc_below (lt : α → α → Bool) (x : α) (S : List α) : ∀ k y, 0 < plc lt x S k → S[plc lt x S k - 1]? = some y → lt x y = false
  | 0, y, h, _ => by simp [plc] at h
  | k + 1, y, h, hy => by
    simp only [plc] at h hy
    split at h
    · rename_i z hz
      simp only [hz] at hy
      split at h
      · rename_i hl
        rw [if_pos hl] at hy
        exact plc_below lt x S k y h hy
      · rename_i hl
        rw [if_neg hl, Nat.add_sub_cancel, hz] at hy
        cases hy
        simpa using hl
    · rename_i hz
      simp only [hz] at hy
      rw [Nat.add_sub_cancel, hz] at hy
      cases hy

theorem insR_perm (lt : α → α → Bool) (S : List α) (x : α) : (insR lt S x).Perm (x :: S) := by
  unfold insR
  refine (List.perm_middle).trans ?_
  rw [List.take_append_drop]

theorem insR_length (lt : α → α → Bool) (S : List α) (x : α) : (insR lt S x).length = S.length + 1 := (insR_perm lt S x).length_eq

/-- Sorted: none is less than one ahead of it. -/
abbrev SortedL (lt : α → α → Bool) (S : List α) : Prop := S.Pairwise fun a b => (!lt b a) = true

theorem insR_sorted {lt : α → α → Bool} (hO : SWO lt) {S : List α} (hS : SortedL lt S) (x : α) : SortedL lt (insR lt S x) := by
  have asym : ∀ a b, lt a b = true → lt b a = false := by
    intro a b h
    cases h2 : lt b a with
    | false => rfl
    | true => have := hO.trans _ _ _ h h2; rw [hO.irrefl] at this; cases this
  unfold insR
  obtain ⟨p, hp⟩ : ∃ p, p = plc lt x S S.length := ⟨_, rfl⟩
  have hple := plc_le lt x S S.length
  have habove := plc_above lt x S S.length
  have hbelow := plc_below lt x S S.length
  rw [← hp] at hple habove hbelow ⊢
  have h0 : S.take p ++ S.drop p = S := List.take_append_drop _ _
  have hS2 := hS
  unfold SortedL at hS2
  rw [← h0, List.pairwise_append] at hS2
  obtain ⟨h1, h2, h3⟩ := hS2
  have hxd : ∀ b ∈ S.drop p, lt x b = true := by
    intro b hb
    obtain ⟨j, hj⟩ := List.mem_iff_getElem?.1 hb
    rw [List.getElem?_drop] at hj
    exact habove (p + j) b (by omega) (List.getElem?_eq_some_iff.1 hj).1 hj
  have hax : ∀ a ∈ S.take p, lt x a = false := by
    intro a ha
    obtain ⟨j, hj⟩ := List.mem_iff_getElem?.1 ha
    rw [List.getElem?_take] at hj
    split at hj
    · rename_i hjp
      have hpl : p - 1 < S.length := by omega
      have hb := hbelow S[p - 1] (by omega) (List.getElem?_eq_getElem hpl)
      by_cases e : j = p - 1
      · subst e
        rw [List.getElem?_eq_getElem hpl] at hj
        cases hj
        exact hb
      · have hjl : j < S.length := by omega
        have := List.pairwise_iff_getElem.1 hS j (p - 1) hjl hpl (by omega)
        rw [List.getElem?_eq_getElem hjl] at hj
        cases hj
        exact hO.ntrans _ _ _ hb (by simpa using this)
    · cases hj
  unfold SortedL
  rw [List.pairwise_append]
  refine ⟨h1, List.pairwise_cons.2 ⟨fun b hb => by simp [asym _ _ (hxd b hb)], h2⟩, fun a ha b hb => ?_⟩
  rcases List.mem_cons.1 hb with rfl | hb
  · simp [hax a ha]
  · exact h3 a ha b hb

theorem sortI_go {lt : α → α → Bool} (hO : SWO lt) : ∀ (xs S : List α), SortedL lt S → SortedL lt (xs.foldl (insR lt) S) ∧ (xs.foldl (insR lt) S).Perm (S ++ xs)
  | [], S, h => ⟨h, by simp⟩
  | x :: xs, S, h => by
    obtain ⟨h1, h2⟩ := sortI_go hO xs (insR lt S x) (insR_sorted hO h x)
    refine ⟨h1, h2.trans ?_⟩
    refine ((insR_perm lt S x).append_right xs).trans ?_
    exact (List.perm_middle (l₁ := S) (a := x) (l₂ := xs)).symm

theorem sortI_eq {lt : α → α → Bool} (hO : SWO lt) (hT : ∀ x y, lt x y = false → lt y x = false → x = y) (xs : List α) : sortI lt xs = xs.mergeSort fun x y => !lt y x := by
  obtain ⟨h1, h2⟩ := sortI_go hO xs [] List.Pairwise.nil
  refine List.Perm.eq_of_pairwise (le := fun x y => (!lt y x) = true) ?_ h1 ?_ ((show (sortI lt xs).Perm xs from h2).trans (List.mergeSort_perm _ _).symm)
  · intro a b _ _ h3 h4
    simp only [Bool.not_eq_true'] at h3 h4
    exact hT a b h4 h3
  · refine List.pairwise_mergeSort (le := fun x y => !lt y x) ?_ ?_ xs
    · intro a b c h3 h4
      simp only [Bool.not_eq_true'] at h3 h4 ⊢
      exact hO.ntrans _ _ _ h4 h3
    · intro a b
      simp only [Bool.or_eq_true, Bool.not_eq_true']
      cases h3 : lt b a with
      | false => exact .inl rfl
      | true =>
        right
        cases h4 : lt a b with
        | false => rfl
        | true => have := hO.trans _ _ _ h3 h4; rw [hO.irrefl] at this; cases this

theorem sortI_succ (lt : α → α → Bool) {xs : List α} {i : Nat} {a : α} (h : xs[i]? = some a) : sortI lt (xs.take (i + 1)) = insR lt (sortI lt (xs.take i)) a := by
  simp [sortI, List.take_add_one, h, List.foldl_append]

theorem sortI_length (lt : α → α → Bool) : ∀ (xs S : List α), (xs.foldl (insR lt) S).length = S.length + xs.length
  | [], S => rfl
  | x :: xs, S => by
    rw [List.foldl_cons, sortI_length lt xs, insR_length, List.length_cons]
    omega
end
end Go.Proofs.YtbbjajmimckabaaGreat
