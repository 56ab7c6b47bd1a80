/- Insertion from the left into a sorted list: plain laws. -/
import Derived.Test.YtbbjajmimckabaaGreatC2
set_option linter.unusedVariables false
set_option linter.unusedSimpArgs false
namespace Go.Proofs.YtbbjajmimckabaaGreat
open Go.Sx Go.RowKit Go.Sort

/-! ### Insertion from the left into a sorted list -/
section
variable {α : Type}

/-- The first place whose element is not less than x. -/
def plS (lt : α → α → Bool) (S : List α) (x : α) : Nat := (S.findIdx? fun a => !lt a x).getD S.length

theorem asymS {lt : α → α → Bool} (hO : SWO lt) {a b : α} (h : lt a b = true) : lt b a = false := by
  cases h2 : lt b a with
  | false => rfl
  | true => have := hO.trans _ _ _ h h2; rw [hO.irrefl] at this; cases this

theorem plS_le (lt : α → α → Bool) (S : List α) (x : α) : plS lt S x ≤ S.length := by
  unfold plS
  cases h : S.findIdx? (fun a => !lt a x) with
  | none => simp
  | some i =>
    rw [List.findIdx?_eq_some_iff_getElem] at h
    have := h.1
    simp; omega

theorem plS_below (lt : α → α → Bool) (S : List α) (x : α) (j : Nat) (y : α) (hj : j < plS lt S x) (hy : S[j]? = some y) : lt y x = true := by
  unfold plS at hj
  cases h : S.findIdx? (fun a => !lt a x) with
  | none =>
    rw [List.findIdx?_eq_none_iff] at h
    simpa using h y (List.mem_of_getElem? hy)
  | some i =>
    rw [List.findIdx?_eq_some_iff_getElem] at h
    obtain ⟨hi, _, h3⟩ := h
    rw [show S.findIdx? (fun a => !lt a x) = some i from by rw [List.findIdx?_eq_some_iff_getElem]; exact ⟨hi, by assumption, h3⟩] at hj
    have := h3 j (by simpa using hj)
    have hjl := (List.getElem?_eq_some_iff.1 hy).1
    rw [List.getElem?_eq_getElem hjl] at hy
    cases hy
    simpa using this

theorem plS_at (lt : α → α → Bool) (S : List α) (x : α) (y : α) (hy : S[plS lt S x]? = some y) : lt y x = false := by
  unfold plS at hy
  cases h : S.findIdx? (fun a => !lt a x) with
  | none => rw [h] at hy; simp at hy
  | some i =>
    rw [h] at hy
    rw [List.findIdx?_eq_some_iff_getElem] at h
    obtain ⟨hi, h2, _⟩ := h
    simp only [Option.getD_some] at hy
    rw [List.getElem?_eq_getElem hi] at hy
    cases hy
    simpa using h2

theorem sorted_at {lt : α → α → Bool} {S : List α} (hS : SortedL lt S) {i j : Nat} {a b : α} (ha : S[i]? = some a) (hb : S[j]? = some b) (hij : i < j) : lt b a = false := by
  have hi := (List.getElem?_eq_some_iff.1 ha).1
  have hj := (List.getElem?_eq_some_iff.1 hb).1
  have := List.pairwise_iff_getElem.1 hS i j hi hj hij
  rw [List.getElem?_eq_getElem hi] at ha
  rw [List.getElem?_eq_getElem hj] at hb
  cases ha; cases hb
  simpa using this

/-- What stands at the place is x, if x is there at all. -/
theorem plS_mem {lt : α → α → Bool} (hO : SWO lt) (hT : ∀ x y, lt x y = false → lt y x = false → x = y) {S : List α} (hS : SortedL lt S) {x : α} (hx : x ∈ S) : S[plS lt S x]? = some x := by
  obtain ⟨j, hj⟩ := List.mem_iff_getElem?.1 hx
  have hjl := (List.getElem?_eq_some_iff.1 hj).1
  have h1 : plS lt S x ≤ j := by
    rcases Nat.lt_or_ge j (plS lt S x) with h | h
    · have := plS_below lt S x j x h hj
      rw [hO.irrefl] at this; cases this
    · exact h
  obtain ⟨y, hy⟩ : ∃ y, S[plS lt S x]? = some y := ⟨S[plS lt S x]'(by omega), by simp [show plS lt S x < S.length by omega]⟩
  have h2 := plS_at lt S x y hy
  rcases Nat.lt_or_ge (plS lt S x) j with h | h
  · have h3 := sorted_at hS hy hj h
    rw [hT y x h2 h3] at hy
    exact hy
  · rw [show plS lt S x = j by omega]; exact hj

theorem plc_eq {lt : α → α → Bool} (hO : SWO lt) (hT : ∀ x y, lt x y = false → lt y x = false → x = y) {S : List α} (hS : SortedL lt S) {x : α} (hx : ¬ x ∈ S) : plc lt x S S.length = plS lt S x := by
  have h0 := plc_le lt x S S.length
  have h1 := plS_le lt S x
  have up : ∀ j y, plS lt S x ≤ j → S[j]? = some y → lt x y = true := by
    intro j y hj hy
    have hjl := (List.getElem?_eq_some_iff.1 hy).1
    obtain ⟨z, hz⟩ : ∃ z, S[plS lt S x]? = some z := ⟨S[plS lt S x]'(by omega), by simp [show plS lt S x < S.length by omega]⟩
    have h2 := plS_at lt S x z hz
    have h3 : lt x z = true := by
      cases h : lt x z with
      | true => rfl
      | false => exact absurd (by rw [hT x z h h2]; exact List.mem_of_getElem? hz) hx
    rcases Nat.lt_or_ge (plS lt S x) j with h | h
    · cases h4 : lt x y with
      | true => rfl
      | false =>
        have := hO.ntrans _ _ _ h4 (sorted_at hS hz hy h)
        rw [h3] at this; cases this
    · have : plS lt S x = j := by omega
      rw [this, hy] at hz
      cases hz
      exact h3
  rcases Nat.lt_trichotomy (plc lt x S S.length) (plS lt S x) with h | h | h
  · obtain ⟨y, hy⟩ : ∃ y, S[plc lt x S S.length]? = some y := ⟨S[plc lt x S S.length]'(by omega), by simp [show plc lt x S S.length < S.length by omega]⟩
    have h2 := plc_above lt x S S.length _ y (Nat.le_refl _) (by omega) hy
    have h3 := plS_below lt S x _ y h hy
    rw [asymS hO h3] at h2; cases h2
  · exact h
  · obtain ⟨y, hy⟩ : ∃ y, S[plc lt x S S.length - 1]? = some y := ⟨S[plc lt x S S.length - 1]'(by omega), by simp [show plc lt x S S.length - 1 < S.length by omega]⟩
    have h2 := plc_below lt x S S.length y (by omega) hy
    have h3 := up _ y (by omega) hy
    rw [h2] at h3; cases h3

theorem sortI_sorted {lt : α → α → Bool} (hO : SWO lt) (xs : List α) : SortedL lt (sortI lt xs) := (sortI_go hO xs [] List.Pairwise.nil).1
theorem sortI_mem {lt : α → α → Bool} (hO : SWO lt) (xs : List α) (a : α) : a ∈ sortI lt xs ↔ a ∈ xs := by
  have := (sortI_go hO xs [] List.Pairwise.nil).2.mem_iff (a := a)
  simpa [sortI] using this
theorem sortI_snoc (lt : α → α → Bool) (xs : List α) (a : α) : sortI lt (xs ++ [a]) = insR lt (sortI lt xs) a := by simp [sortI, List.foldl_append]
end
end Go.Proofs.YtbbjajmimckabaaGreat
