/- Trees of slices of the call's own: they are laid. -/
import Derived.Test.YtamiheofgejehaaR6
set_option linter.unusedVariables false
set_option linter.unusedSimpArgs false
namespace Go.Sx
open Go.RowKit

theorem RelAt.turn {w0 : World} {st : St} {a : Act} {w w' : World} {ω ω' : Own} {τ τ' : Nat → Nat × Value} (h : RelAt w0 st a w ω τ) (f : Leaf → Leaf)
    (hsat : ∀ l v, Sat w ω τ l v → Sat w' ω' τ' (f l) v) (hbelow : Below w0.heap.size w0 w') (howned : Owned w0 w' ω')
    (hbox : ∀ id b, ω b = .box id → ω' b = .box id ∧ w'.heap[b]? = w.heap[b]?) (hboxU : ∀ id b, ω' b = .box id → ω b = .box id) : RelAt w0 (st.map f) a w' ω' τ' where
  defers := h.defers
  size := by simp [St.map, h.size]
  below := hbelow
  owned := howned
  env := by
    intro i q hq
    simp only [St.map] at hq
    rw [List.getElem?_map, Option.map_eq_some_iff] at hq
    obtain ⟨q0, h0, rfl⟩ := hq
    obtain ⟨v, h1, h2⟩ := h.env i q0 h0
    exact ⟨v, h1, SatP.map hsat h2⟩
  boxes := by
    intro id ls hl
    simp only [St.map] at hl
    rw [getBox_map, Option.map_eq_some_iff] at hl
    obtain ⟨ls0, h0, rfl⟩ := hl
    obtain ⟨b, arr, ty, hb, hu, hh, hs⟩ := h.boxes id ls0 h0
    obtain ⟨h1, h2⟩ := hbox id b hb
    exact ⟨b, arr, ty, h1, fun b' hb' => hu b' (hboxU id b' hb'), h2.trans hh, hs.map hsat⟩

/-- Which trees go into which place of a new tree. -/
abbrev Moves := List (Nat × (Nat × Nat))

def Moves.at (s : Nat) : Moves → Option (Nat × Nat)
  | [] => none
  | (i, p) :: r => if i = s then some p else Moves.at s r

def mvTag (t : Nat) (ms : Moves) : Tag → Option Tag
  | .free => some .free
  | .own s => if s = t then some .free else if (ms.at s).isSome then none else some (.own s)
  | .ro s => if s = t then some .free else if (ms.at s).isSome then none else some (.ro s)

def mvOwner (t : Nat) (ms : Moves) : Owner → Owner
  | .tok s q => if s = t then .imm else match ms.at s with | some p => .tok t (p :: q) | none => .tok s q
  | o => o

theorem mvOwner_box {t : Nat} {ms : Moves} {o : Owner} {id : Nat} : mvOwner t ms o = .box id ↔ o = .box id := by
  cases o with
  | imm => simp [mvOwner]
  | box i => simp [mvOwner]
  | tok s q =>
    simp only [mvOwner]
    split
    · simp
    · split <;> simp

theorem mvTag_R {t : Nat} {ms : Moves} {g g' : Tag} {q : List (Nat × Nat)} {o : Owner} (h : mvTag t ms g = some g') (hr : g.R q o) : g'.R q (mvOwner t ms o) := by
  cases g with
  | free => simp only [mvTag, Option.some.injEq] at h; subst h; simp only [Tag.R] at hr ⊢; rw [hr]; rfl
  | own s =>
    simp only [Tag.R] at hr
    subst hr
    simp only [mvTag] at h
    simp only [mvOwner]
    split at h
    · simp only [Option.some.injEq] at h; subst h; rw [if_pos ‹_›]; rfl
    · split at h
      · cases h
      · rename_i h1 h2
        simp only [Option.some.injEq] at h; subst h
        rw [if_neg h1]
        cases e : ms.at s with
        | none => rfl
        | some p => simp [e] at h2
  | ro s =>
    simp only [Tag.R] at hr
    simp only [mvTag] at h
    split at h
    · simp only [Option.some.injEq] at h; subst h
      rcases hr with rfl | ⟨q', rfl⟩
      · rfl
      · simp only [mvOwner]; rw [if_pos ‹_›]; rfl
    · split at h
      · cases h
      · rename_i h1 h2
        simp only [Option.some.injEq] at h; subst h
        rcases hr with rfl | ⟨q', rfl⟩
        · exact .inl rfl
        · refine .inr ⟨q', ?_⟩
          simp only [mvOwner]
          rw [if_neg h1]
          cases e : ms.at s with
          | none => rfl
          | some p => simp [e] at h2

def newOwn (w : World) (ω : Own) (t : Nat) (ms : Moves) : Own := fun b => if b = w.heap.size then .tok t [] else mvOwner t ms (ω b)
def newHdr (w : World) (τ : Nat → Nat × Value) (t k n c : Nat) : Nat → Nat × Value := fun s => if s = t then (k, .slice (some ⟨w.heap.size, 0, none⟩) n c) else τ s

def St.newTok (st : St) (t : Nat) (ms : Moves) : St := st.map (Leaf.re (mvTag t ms) fun _ => true)

theorem newTok_evolve {w w1 : World} {ω : Own} {τ : Nat → Nat × Value} {t k n c : Nat} {ms : Moves} (hf : ω w.heap.size = .imm) (hh : ∀ b, b < w.heap.size → w1.heap[b]? = w.heap[b]?) :
    Evolve w ω τ w1 (newOwn w ω t ms) (newHdr w τ t k n c) (mvTag t ms) (fun _ => true) := by
  refine ⟨?_, ?_, ?_⟩
  · intro g g' b q hg hb hq
    refine ⟨?_, hh b hb⟩
    simp only [newOwn]
    rw [if_neg (by omega)]
    exact mvTag_R hg hq
  · intro g g' y hg hy
    cases g with
    | free => simp only [mvTag, Option.some.injEq] at hg; subst hg; exact trivial
    | own s =>
      simp only [mvTag] at hg
      split at hg
      · simp only [Option.some.injEq] at hg; subst hg; exact trivial
      · split at hg
        · cases hg
        · simp only [Option.some.injEq] at hg; subst hg
          simp only [Tag.hdr, newHdr] at hy ⊢
          rw [if_neg ‹_›]; exact hy
    | ro s =>
      simp only [mvTag] at hg
      split at hg
      · simp only [Option.some.injEq] at hg; subst hg; exact trivial
      · split at hg
        · cases hg
        · simp only [Option.some.injEq] at hg; subst hg; exact trivial
  · intro id b _ hb
    simp only [newOwn]
    by_cases e : b = w.heap.size
    · subst e; rw [hf] at hb; cases hb
    · rw [if_neg e, hb]; rfl

def Leaf.toD : Leaf → Option D
  | .v x => if x.oneCell' then some (.v x) else none
  | .sb c => some (.v (.bool c))
  | .sl (.own _) k es => some (.sl k es)
  | _ => none

def Leaf.tok : Leaf → Option Nat
  | .sl (.own s) _ _ => some s
  | _ => none

/-- What a cell of a new tree is made of. -/
def CellOf (w : World) (ω : Own) (τ : Nat → Nat × Value) (t : Nat) (ms : Moves) (i j : Nat) (d : D) (u : Value) : Prop :=
  ∃ l : Leaf, l.toD = some d ∧ Sat w ω τ l u ∧ ∀ s, l.tok = some s → s ≠ t ∧ ms.at s = some (i, j)

theorem CellOf.rep {w w1 : World} {ω : Own} {τ : Nat → Nat × Value} {t : Nat} {ms : Moves} {i j : Nat} {d : D} {u : Value} (h : CellOf w ω τ t ms i j d u) (hh : ∀ b, b < w.heap.size → w1.heap[b]? = w.heap[b]?) :
    Rep w1 (newOwn w ω t ms) (fun q => (Tag.own t).R ((i, j) :: q)) d u := by
  obtain ⟨l, hd, hs, hm⟩ := h
  cases l with
  | und => cases hd
  | v x =>
    simp only [Leaf.toD] at hd
    split at hd
    · simp only [Option.some.injEq] at hd; subst hd
      have : u = x := hs
      subst this
      exact .v _ _ ‹_›
    · cases hd
  | sb c =>
    simp only [Leaf.toD, Option.some.injEq] at hd; subst hd
    have : u = .bool c := hs
    subst this
    exact .v _ _ rfl
  | sl g k es =>
    cases g with
    | free => cases hd
    | ro s => cases hd
    | own s =>
      simp only [Leaf.toD, Option.some.injEq] at hd; subst hd
      obtain ⟨hne, hat⟩ := hm s rfl
      refine hs.1.frame fun b q hb hq => ⟨?_, hh b hb⟩
      simp only [Tag.R] at hq ⊢
      simp only [newOwn]
      rw [if_neg (by omega), hq]
      simp only [mvOwner]
      rw [if_neg hne, hat]
  | ptr id off => cases hd
  | ep g k es i j => cases hd

theorem RelAt.newTok {w0 : World} {st : St} {a : Act} {w w1 : World} {ω : Own} {τ : Nat → Nat × Value} (h : RelAt w0 st a w ω τ) (t : Nat) (ms : Moves) {k cap : Nat} {es : List (List D)} {arr : Array Value} {ty : TypeId}
    (hb : Below w.heap.size w w1) (hnew : w1.heap[w.heap.size]? = some (.cells arr ty (0, 0))) (hc : es.length ≤ cap) (hsz : cap * k ≤ arr.size) (hk : ∀ e ∈ es, e.length = k)
    (hcell : ∀ i j d, cellAt es i j = some d → ∃ u, arr[i * k + j]? = some u ∧ CellOf w ω τ t ms i j d u) :
    RelAt w0 (st.newTok t ms) a w1 (newOwn w ω t ms) (newHdr w τ t k es.length cap) ∧
    Sat w1 (newOwn w ω t ms) (newHdr w τ t k es.length cap) (.sl (.own t) k es) (.slice (some ⟨w.heap.size, 0, none⟩) es.length cap) := by
  have hf : ω w.heap.size = .imm := h.owned.fresh (Nat.le_refl _)
  have hblk := hb.block
  have hlt1 : w.heap.size < w1.heap.size := (Array.getElem?_eq_some_iff.1 hnew).1
  have hself : newOwn w ω t ms w.heap.size = .tok t [] := by simp [newOwn]
  have hother : ∀ b, b ≠ w.heap.size → newOwn w ω t ms b = mvOwner t ms (ω b) := fun b hb => by simp [newOwn, hb]
  refine ⟨h.turn _ (newTok_evolve hf hblk).sat ?_ ?_ ?_ ?_, ?_, ?_⟩
  · exact h.below.trans (hb.mono h.below.size)
  · intro b hbi
    by_cases e : b = w.heap.size
    · subst e; exact ⟨h.below.size, arr, ty, hnew⟩
    · rw [hother b e] at hbi
      have h2 : ω b ≠ .imm := fun e' => by rw [e'] at hbi; exact hbi rfl
      obtain ⟨h3, arr2, ty2, h4⟩ := h.owned b h2
      exact ⟨h3, arr2, ty2, (hblk b (h.owned.lt h2)).trans h4⟩
  · intro id b hbi
    have hlt := h.owned.lt (b := b) (by simp [hbi])
    rw [hother b (by omega), hbi]
    exact ⟨rfl, hblk b hlt⟩
  · intro id b hbi
    by_cases e : b = w.heap.size
    · subst e; rw [hself] at hbi; cases hbi
    · rw [hother b e] at hbi
      exact mvOwner_box.1 hbi
  · have hus : ∀ i j d, cellAt es i j = some d → arr[0 + i * k + j]? = some (arr.getD (i * k + j) undef) ∧ CellOf w ω τ t ms i j d (arr.getD (i * k + j) undef) := by
      intro i j d hd
      obtain ⟨u, h1, h2⟩ := hcell i j d hd
      have e : arr.getD (i * k + j) undef = u := by simp [Array.getD_eq_getD_getElem?, h1]
      rw [e]
      exact ⟨by rw [Nat.zero_add]; exact h1, h2⟩
    exact .row _ k es w.heap.size 0 cap arr ty (0, 0) (fun i j => arr.getD (i * k + j) undef) hnew hself hc (by omega) hk (fun i j d hd => (hus i j d hd).1) (fun i j d hd => (hus i j d hd).2.rep hblk)
  · simp [Tag.hdr, newHdr]

/-- The zero element of a slice, as data: the user says where a nil slice stands. -/
def zeroCell (u : Value) : D := .v u

def stepMake (P : Program) (st : St) (d : Nat) (t : TypeId) (p q : PV) (ans : List Ans) : Stepped :=
  match P.underlying t with
  | some (.slice e) =>
    match P.info? e, p.int, q.int with
    | some i, some (_, l), some (_, c) =>
      match i.zero with
      | some z =>
        if i.size = z.cells.size ∧ 0 < i.size ∧ z.cells.all (·.oneCell') = true then
          some (⟨(st.newTok d []).env.set d (.one (.sl (.own d) i.size (List.replicate l.toNat (z.cells.toList.map .v)))), (st.newTok d []).boxes⟩, ans, [0 ≤ l, l ≤ c, (i.bytes : Int) * c ≤ 281474976710656, c ≤ 9223372036854775807])
        else none
      | none => none
    | _, _, _ => none
  | _ => none

theorem madeCells_get (z : Array Value) (n i j : Nat) (hi : i < n) (hj : j < z.size) : (madeCells z (n * z.size))[i * z.size + j]? = z[j]? := by
  have hlt : i * z.size + j < n * z.size := by
    have : (i + 1) * z.size ≤ n * z.size := Nat.mul_le_mul_right _ hi
    rw [Nat.add_mul] at this; omega
  have e : (i * z.size + j) % z.size = j := by rw [Nat.add_comm, Nat.add_mul_mod_self_right]; exact Nat.mod_eq_of_lt hj
  simp [madeCells, hlt, e, getElem!_pos, hj]

theorem cellAt_replicate {n : Nat} {e : List D} {i j : Nat} {d : D} (h : cellAt (List.replicate n e) i j = some d) : i < n ∧ e[j]? = some d := by
  unfold cellAt at h
  rw [List.getElem?_replicate] at h
  split at h
  · exact ⟨‹_›, h⟩
  · simp at h

theorem RelAt.make {P : Program} {w0 : World} {st st' : St} {a : Act} {w : World} {ω : Own} {τ : Nat → Nat × Value} {d : Nat} {t : TypeId} {p q : PV} {u v : Value} {ans ans' : List Ans} {obs : List Prop}
    (hrel : RelAt w0 st a w ω τ) (hp : SatP (Sat w ω τ) p u) (hq : SatP (Sat w ω τ) q v) (h : stepMake P st d t p q ans = some (st', ans', obs)) (ho : Obs obs) :
    ∃ z w', (Instr.makeSlice t u v).run P w = .ok z w' ∧ Rel w0 st' (a.put (some d) z) w' := by
  unfold stepMake at h
  split at h
  · rename_i e hu
    split at h
    · rename_i i k1 l k2 c hi e1 e2
      split at h
      · rename_i z hz
        split at h
        · rename_i hc
          obtain ⟨hc1, hc2, hc3⟩ := hc
          simp only [Option.some.injEq, Prod.mk.injEq] at h
          obtain ⟨rfl, _, rfl⟩ := h
          obtain ⟨o1, o2, o3, o4, _⟩ := ho
          rw [PV.int_sat e1 hp, PV.int_sat e2 hq]
          have hrun := run_make (P := P) w t e i z hu hi hz k1 k2 l c o1 o2 o3 o4
          have hnew : (w.alloc (.cells (madeCells z.cells (c.toNat * i.size)) e)).heap[w.heap.size]? = some (.cells (madeCells z.cells (c.toNat * i.size)) e (0, 0)) := heap_alloc_new' _ _
          have hsz : (madeCells z.cells (c.toNat * i.size)).size = c.toNat * i.size := by simp [madeCells]
          have hN := hrel.newTok d [] (k := i.size) (cap := c.toNat) (es := List.replicate l.toNat (z.cells.toList.map .v)) (w1 := w.alloc (.cells (madeCells z.cells (c.toNat * i.size)) e))
            ((Below.refl _ _).alloc (Nat.le_refl _) _) hnew (by simp; omega) (by omega) (fun e' he => by rw [List.eq_of_mem_replicate he]; simp [hc1]) (fun x j dd hd => by
              obtain ⟨hx, hd⟩ := cellAt_replicate hd
              rw [List.getElem?_map, Option.map_eq_some_iff] at hd
              obtain ⟨u', hu', rfl⟩ := hd
              have hj : j < z.cells.size := by
                have := (List.getElem?_eq_some_iff.1 hu').1
                simpa using this
              refine ⟨u', ?_, .v u', ?_, rfl, fun s hs => by cases hs⟩
              · rw [hc1, madeCells_get z.cells c.toNat x j (by omega) hj]
                simpa using hu'
              · have : u'.oneCell' = true := by
                  have h1 := Array.all_eq_true'.1 hc3
                  exact h1 u' (by simpa using List.mem_of_getElem? hu')
                simp [Leaf.toD, this])
          simp only [List.length_replicate] at hN
          exact ⟨_, _, hrun, _, _, hN.1.put (p := .one (.sl (.own d) i.size (List.replicate l.toNat (z.cells.toList.map .v)))) hN.2⟩
        · cases h
      · cases h
    · cases h
  · cases h
end Go.Sx
