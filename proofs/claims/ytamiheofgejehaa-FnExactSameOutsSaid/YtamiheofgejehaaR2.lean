/- How the relation goes on when a slot is written, a box is laid or written, a tree of slices is laid. -/
import Derived.Test.YtamiheofgejehaaR1
set_option linter.unusedVariables false
set_option linter.unusedSimpArgs false
namespace Go.Sx
open Go.RowKit

/-- A leaf whose tag is turned: gone where g says none; a pointer to a box stays where p says so. -/
def Leaf.re (g : Tag → Option Tag) (p : Nat → Bool) : Leaf → Leaf
  | .sl t k es => match g t with | some t' => .sl t' k es | none => .und
  | .ep t k es i j => match g t with | some t' => .ep t' k es i j | none => .und
  | .ptr id off => if p id then .ptr id off else .und
  | l => l

structure Evolve (w : World) (ω : Own) (τ : Nat → Nat × Value) (w' : World) (ω' : Own) (τ' : Nat → Nat × Value) (g : Tag → Option Tag) (p : Nat → Bool) : Prop where
  rep : ∀ t t' b q, g t = some t' → b < w.heap.size → t.R q (ω b) → t'.R q (ω' b) ∧ w'.heap[b]? = w.heap[b]?
  hdr : ∀ t t' y, g t = some t' → t.hdr τ y → t'.hdr τ' y
  box : ∀ id b, p id = true → ω b = .box id → ω' b = .box id

theorem Evolve.sat {w w' : World} {ω ω' : Own} {τ τ' : Nat → Nat × Value} {g : Tag → Option Tag} {p : Nat → Bool} (h : Evolve w ω τ w' ω' τ' g p) :
    ∀ (l : Leaf) (v : Value), Sat w ω τ l v → Sat w' ω' τ' (l.re g p) v := by
  intro l v hs
  cases l with
  | und => exact trivial
  | v x => exact hs
  | sb c => exact hs
  | sl t k es =>
    simp only [Leaf.re]
    cases hg : g t with
    | none => exact trivial
    | some t' => exact ⟨hs.1.frame fun b q hb hq => h.rep t t' b q hg hb hq, h.hdr t t' _ hg hs.2⟩
  | ptr id off =>
    simp only [Leaf.re]
    split
    · obtain ⟨b, hb, e⟩ := hs
      exact ⟨b, h.box id b ‹_› hb, e⟩
    · exact trivial
  | ep t k es i j =>
    simp only [Leaf.re]
    cases hg : g t with
    | none => exact trivial
    | some t' =>
      obtain ⟨b, off, cap, e, hi, hr, hh⟩ := hs
      exact ⟨b, off, cap, e, hi, hr.frame fun b q hb hq => h.rep t t' b q hg hb hq, h.hdr t t' _ hg hh⟩

theorem getElem?_put {a : Act} {d : Nat} {v : Value} {i : Nat} : (a.put (some d) v).tmps[i]? = if d = i ∧ i < a.tmps.size then some v else a.tmps[i]? := by
  simp only [Act.put, Array.getElem?_setIfInBounds]
  by_cases h : d = i
  · subst h
    by_cases h2 : d < a.tmps.size
    · simp [h2]
    · simp [h2]
  · simp [h]

theorem RelAt.put {w0 : World} {st : St} {a : Act} {w : World} {ω : Own} {τ : Nat → Nat × Value} (h : RelAt w0 st a w ω τ) {d : Nat} {p : PV} {v : Value} (hs : SatP (Sat w ω τ) p v) :
    RelAt w0 ⟨st.env.set d p, st.boxes⟩ (a.put (some d) v) w ω τ where
  defers := h.defers
  size := by simp [Act.put, h.size]
  below := h.below
  owned := h.owned
  boxes := h.boxes
  env := by
    intro i q hq
    rw [List.getElem?_set] at hq
    rw [getElem?_put]
    by_cases hd : d = i
    · subst hd
      simp only [if_true] at hq
      split at hq
      · rename_i hlt
        have e := Option.some.inj hq
        subst e
        exact ⟨v, by rw [if_pos ⟨rfl, by rw [h.size]; exact hlt⟩], hs⟩
      · cases hq
    · rw [if_neg hd] at hq
      rw [if_neg (by simp [hd])]
      exact h.env i q hq

/-- The world turns, leaves are retagged. -/
theorem RelAt.evolve {w0 : World} {st : St} {a : Act} {w w' : World} {ω ω' : Own} {τ τ' : Nat → Nat × Value} {g : Tag → Option Tag} {p : Nat → Bool}
    (h : RelAt w0 st a w ω τ) (e : Evolve w ω τ w' ω' τ' g p) (hbelow : Below w0.heap.size w0 w') (howned : Owned w0 w' ω') {bs : List (Nat × List Leaf)}
    (hbox : ∀ id ls, getBox id bs = some ls → BoxOk w' ω' τ' id ls) : RelAt w0 ⟨st.env.map (PV.map (Leaf.re g p)), bs⟩ a w' ω' τ' where
  defers := h.defers
  size := by simp [h.size]
  below := hbelow
  owned := howned
  boxes := hbox
  env := by
    intro i q hq
    rw [List.getElem?_map, Option.map_eq_some_iff] at hq
    obtain ⟨q0, h0, rfl⟩ := hq
    obtain ⟨v, h1, h2⟩ := h.env i q0 h0
    exact ⟨v, h1, SatP.map e.sat h2⟩

theorem heap_alloc_new' (w : World) (o : Obj) : (w.alloc o).heap[w.heap.size]? = some o := by
  show (w.heap.push o)[_]? = _
  simp
theorem heap_alloc_lt (w : World) (o : Obj) {i : Nat} (h : i < w.heap.size) : (w.alloc o).heap[i]? = w.heap[i]? := Below.heap_alloc w o i h

def eraseBox (id : Nat) : List (Nat × List Leaf) → List (Nat × List Leaf)
  | [] => []
  | (i, ls) :: r => if i = id then eraseBox id r else (i, ls) :: eraseBox id r

theorem getBox_erase_self (id : Nat) : ∀ bs, getBox id (eraseBox id bs) = none
  | [] => rfl
  | (i, ls) :: r => by
    simp only [eraseBox]
    split
    · exact getBox_erase_self id r
    · simp only [getBox]; rw [if_neg ‹_›]; exact getBox_erase_self id r
theorem getBox_erase_ne {id id' : Nat} (h : id' ≠ id) : ∀ bs, getBox id' (eraseBox id bs) = getBox id' bs
  | [] => rfl
  | (i, ls) :: r => by
    simp only [eraseBox, getBox]
    by_cases h1 : i = id
    · rw [if_pos h1, if_neg (by omega)]; exact getBox_erase_ne h r
    · rw [if_neg h1]
      simp only [getBox]
      split
      · rfl
      · exact getBox_erase_ne h r

/-- Keeps every tag; drops pointers to box 'id'. -/
def keepT : Tag → Option Tag := some
def butBox (id : Nat) : Nat → Bool := fun i => decide (i ≠ id)

def St.newBox (st : St) (id : Nat) (ls : List Leaf) : St :=
  let f := Leaf.re keepT (butBox id)
  ⟨st.env.map (PV.map f), (id, ls.map f) :: (eraseBox id st.boxes).map fun x => (x.1, x.2.map f)⟩

theorem RelAt.newBox {w0 : World} {st : St} {a : Act} {w : World} {ω : Own} {τ : Nat → Nat × Value} (h : RelAt w0 st a w ω τ) (id : Nat) {ls : List Leaf} {arr : Array Value} (ty : TypeId)
    (hs : SatL (Sat w ω τ) ls arr) :
    ∃ ω', RelAt w0 (st.newBox id ls) a (w.alloc (.cells arr ty)) ω' τ ∧ ω' w.heap.size = .box id := by
  let ω' : Own := fun b => if b = w.heap.size then .box id else match ω b with | .box i => if i = id then .imm else .box i | o => o
  have hnew : ω' w.heap.size = .box id := by simp [ω']
  have hold : ∀ b, b < w.heap.size → ω' b = (match ω b with | .box i => if i = id then .imm else .box i | o => o) := by
    intro b hb
    simp only [ω']
    rw [if_neg (by omega)]
  have hother : ∀ b, b ≠ w.heap.size → ω' b = (match ω b with | .box i => if i = id then .imm else .box i | o => o) := by
    intro b hb
    simp only [ω']
    rw [if_neg hb]
  have ev : Evolve w ω τ (w.alloc (.cells arr ty)) ω' τ keepT (butBox id) := by
    refine ⟨?_, ?_, ?_⟩
    · intro t t' b q hg hb hq
      simp only [keepT, Option.some.injEq] at hg
      subst hg
      refine ⟨?_, heap_alloc_lt _ _ hb⟩
      rw [hold b hb]
      cases t with
      | free => simp only [Tag.R] at hq ⊢; rw [hq]
      | own s => simp only [Tag.R] at hq ⊢; rw [hq]
      | ro s =>
        simp only [Tag.R] at hq ⊢
        rcases hq with hq | ⟨q', hq⟩
        · rw [hq]; exact .inl rfl
        · rw [hq]; exact .inr ⟨q', rfl⟩
    · intro t t' y hg hy
      simp only [keepT, Option.some.injEq] at hg
      subst hg; exact hy
    · intro i b hp hb
      have hlt := h.owned.lt (b := b) (by simp [hb])
      rw [hold b hlt, hb]
      simp only [butBox, decide_eq_true_eq] at hp
      simp [hp]
  have hbelow : Below w0.heap.size w0 (w.alloc (.cells arr ty)) := h.below.alloc h.below.size _
  have howned : Owned w0 (w.alloc (.cells arr ty)) ω' := by
    intro b hb
    by_cases hn : b = w.heap.size
    · subst hn; exact ⟨h.below.size, arr, ty, heap_alloc_new' _ _⟩
    · rw [hother b hn] at hb
      have h2 : ω b ≠ .imm := by intro e; rw [e] at hb; exact hb rfl
      obtain ⟨h3, arr', ty', e⟩ := h.owned b h2
      exact ⟨h3, arr', ty', (heap_alloc_lt _ _ (h.owned.lt h2)).trans e⟩
  refine ⟨ω', ?_, hnew⟩
  refine h.evolve ev hbelow howned ?_
  intro i ls' hl
  simp only [getBox] at hl
  split at hl
  · rename_i hi
    subst hi
    have e := Option.some.inj hl
    subst e
    refine ⟨w.heap.size, arr, ty, hnew, ?_, heap_alloc_new' _ _, hs.map ev.sat⟩
    intro b' hb'
    by_cases hn : b' = w.heap.size
    · exact hn
    · rw [hother b' hn] at hb'
      cases e : ω b' with
      | imm => simp [e] at hb'
      | tok t q => simp [e] at hb'
      | box j =>
        simp only [e] at hb'
        split at hb'
        · cases hb'
        · rename_i hne; simp only [Owner.box.injEq] at hb'; exact absurd hb' hne
  · rename_i hi
    rw [getBox_map, Option.map_eq_some_iff] at hl
    obtain ⟨ls0, h0, rfl⟩ := hl
    have hne : i ≠ id := fun e => hi e.symm
    rw [getBox_erase_ne hne] at h0
    obtain ⟨b, arr', ty', hb, hu, hh, hsat⟩ := h.boxes i ls0 h0
    have hlt := h.owned.lt (b := b) (by simp [hb])
    refine ⟨b, arr', ty', ev.box i b (by simp [butBox, hne]) hb, ?_, (heap_alloc_lt _ _ hlt).trans hh, hsat.map ev.sat⟩
    intro b' hb'
    by_cases hn : b' = w.heap.size
    · subst hn; rw [hnew] at hb'; simp only [Owner.box.injEq] at hb'; exact absurd hb'.symm hne
    · rw [hother b' hn] at hb'
      refine hu b' ?_
      cases e : ω b' with
      | imm => simp [e] at hb'
      | tok t q => simp [e] at hb'
      | box j =>
        simp only [e] at hb'
        split at hb'
        · cases hb'
        · exact hb'
end Go.Sx
