/- A store into an element of a tree of the call's own; a cut of such a tree that takes its place. -/
import Derived.Test.YtamiheofgejehaaR10
set_option linter.unusedVariables false
set_option linter.unusedSimpArgs false
namespace Go.Sx
open Go.RowKit

/-- The leaves behind a store: the token's own leaves read the new elements, its lookers are gone, trees that were moved in are gone. -/
def stLeaf (t : Nat) (ms : Moves) (k : Nat) (es' : List (List D)) : Leaf → Leaf
  | .sl (.own s) k' es => if s = t then .sl (.own t) k es' else if (ms.at s).isSome then .und else .sl (.own s) k' es
  | .ep (.own s) k' es i j => if s = t then .ep (.own t) k es' i j else if (ms.at s).isSome then .und else .ep (.own s) k' es i j
  | .sl (.ro s) k' es => if s = t then .und else if (ms.at s).isSome then .und else .sl (.ro s) k' es
  | .ep (.ro s) k' es i j => if s = t then .und else if (ms.at s).isSome then .und else .ep (.ro s) k' es i j
  | l => l

def stOwner (t : Nat) (ms : Moves) : Owner → Owner
  | .tok s q => if s = t then .tok s q else match ms.at s with | some p => .tok t (p :: q) | none => .tok s q
  | o => o

theorem stOwner_box {t : Nat} {ms : Moves} {o : Owner} {id : Nat} : stOwner t ms o = .box id ↔ o = .box id := by
  cases o with
  | imm => simp [stOwner]
  | box i => simp [stOwner]
  | tok s q =>
    simp only [stOwner]
    split
    · simp
    · split <;> simp

theorem stOwner_imm {t : Nat} {ms : Moves} {o : Owner} : stOwner t ms o = .imm ↔ o = .imm := by
  cases o with
  | imm => simp [stOwner]
  | box i => simp [stOwner]
  | tok s q =>
    simp only [stOwner]
    split
    · simp
    · split <;> simp

theorem cellAt_set {es : List (List D)} {i : Nat} {ds : List D} {x j : Nat} (hi : i < es.length) : cellAt (es.set i ds) x j = if x = i then ds[j]? else cellAt es x j := by
  unfold cellAt
  rw [List.getElem?_set]
  by_cases h : i = x
  · subst h
    rw [if_pos rfl, if_pos hi, if_pos rfl]
    rfl
  · rw [if_neg h, if_neg (Ne.symm h)]

def blitD (ds : List D) (off : Nat) (xs : List D) : List D := ds.take off ++ (xs ++ ds.drop (off + xs.length))

theorem blitD_get {ds xs : List D} {off i : Nat} (h : off + xs.length ≤ ds.length) : (blitD ds off xs)[i]? = if off ≤ i ∧ i < off + xs.length then xs[i - off]? else ds[i]? := by
  unfold blitD
  rw [List.getElem?_append, List.length_take, Nat.min_eq_left (by omega)]
  by_cases h1 : i < off
  · rw [if_pos h1, if_neg (by omega), List.getElem?_take, if_pos h1]
  · rw [if_neg h1, List.getElem?_append]
    by_cases h2 : i - off < xs.length
    · rw [if_pos h2, if_pos (by omega)]
    · rw [if_neg h2, if_neg (by omega), List.getElem?_drop]
      congr 1
      omega

theorem blitD_length {ds xs : List D} {off : Nat} (h : off + xs.length ≤ ds.length) : (blitD ds off xs).length = ds.length := by
  simp [blitD]; omega

def stepStoreElem (P : Program) (st : St) (ty : TypeId) (t k : Nat) (es : List (List D)) (i j : Nat) (q : PV) (ans : List Ans) : Stepped :=
  match q.leaves, P.info? ty, ans with
  | some xs, some inf, .el ds :: r =>
    match xs.mapM Leaf.toD with
    | some ys =>
      if xs.length = inf.size ∧ ds.length = k ∧ j + ys.length ≤ k ∧ movesOk t (movesIn i j xs) = true then
        some (st.map (stLeaf t (movesIn i j xs) k (es.set i (blitD ds j ys))), r, [es[i]? = some ds])
      else none
    | none => none
  | _, _, _ => none

theorem RelAt.storeElem {P : Program} {w0 : World} {st st' : St} {a : Act} {w : World} {ω : Own} {τ : Nat → Nat × Value} {ty : TypeId} {t k i j : Nat} {es : List (List D)} {q : PV} {v y : Value} {ans ans' : List Ans} {obs : List Prop}
    (hrel : RelAt w0 st a w ω τ) (hp : Sat w ω τ (.ep (.own t) k es i j) y) (hq : SatP (Sat w ω τ) q v) (h : stepStoreElem P st ty t k es i j q ans = some (st', ans', obs)) (ho : Obs obs) :
    ∃ w', (Instr.storeAt ty y v).run P w = .ok () w' ∧ Rel w0 st' a w' := by
  unfold stepStoreElem at h
  split at h
  · rename_i xs inf ds r e1 e2
    split at h
    · rename_i ys e3
      split at h
      · rename_i hc
        obtain ⟨hc1, hc2, hc3, hc4⟩ := hc
        simp only [Option.some.injEq, Prod.mk.injEq] at h
        obtain ⟨rfl, _, rfl⟩ := h
        have hds : es[i]? = some ds := ho.1
        obtain ⟨hs, hone⟩ := PV.leaves_sat e1 hq
        obtain ⟨hyl, hyg⟩ := mapM_get e3
        obtain ⟨b, off, cap, rfl, hil, hr, hh⟩ := hp
        simp only [Tag.hdr] at hh
        cases hr with
        | nil => simp at hil
        | row R k es b off cap arr tyb fr us hb hR hcap hsz hkk hu hd =>
          have hR' : ω b = .tok t [] := hR
          obtain ⟨hown1, arr0, ty0, hb0⟩ := hrel.owned b (by rw [hR']; simp)
          rw [hb] at hb0
          simp only [Option.some.injEq, Obj.cells.injEq] at hb0
          obtain ⟨rfl, rfl, rfl⟩ := hb0
          have hblt : b < w.heap.size := (Array.getElem?_eq_some_iff.1 hb).1
          have hmul : (i + 1) * k ≤ cap * k := Nat.mul_le_mul_right _ (by omega)
          rw [Nat.add_mul] at hmul
          have hvs : v.cells.size = xs.length := hs.1
          have hfit : off + i * k + j + v.cells.toList.length ≤ arr.size := by simp; omega
          have hst := run_storeCells_at P b (off + i * k + j) tyb v.cells.toList 0 arr w hb (by simpa using hfit) hone
          simp only [Nat.add_zero] at hst
          generalize harr : (arr.toList.take (off + i * k + j) ++ v.cells.toList ++ arr.toList.drop (off + i * k + j + v.cells.toList.length)).toArray = arr' at hst
          have hget : ∀ x : Nat, arr'[x]? = if off + i * k + j ≤ x ∧ x < off + i * k + j + xs.length then v.cells[x - (off + i * k + j)]? else arr[x]? := by
            intro x
            rw [← harr, List.getElem?_toArray, take_append_get (by simpa using hfit)]
            simp [hvs]
          have hsz' : arr'.size = arr.size := by rw [← harr]; simp; simp at hfit; omega
          have hhs := setRow_heap w b arr arr' tyb (0, 0) hb
          let ms := movesIn i j xs
          let ω' : Own := fun c => stOwner t ms (ω c)
          have hmst : ms.at t = none := by
            cases e : ms.at t with
            | none => rfl
            | some p =>
              have hmem : ∀ (ms : Moves) (p : Nat × Nat), ms.at t = some p → (t, p) ∈ ms := by
                intro ms
                induction ms with
                | nil => intro p h; cases h
                | cons x ms ih =>
                  intro p h
                  obtain ⟨s, p'⟩ := x
                  simp only [Moves.at] at h
                  split at h
                  · rename_i hst'; subst hst'; rw [Option.some.inj h]; exact List.mem_cons_self
                  · exact List.mem_cons_of_mem _ (ih p h)
              exact absurd rfl (movesOk_spec hc4 (hmem ms p e)).1
          have hω : ∀ c q, c < w.heap.size → ω c = .tok t q → ω' c = .tok t q := fun c q _ h => by simp [ω', h, stOwner]
          have hlow : ∀ c p q, c < w.heap.size → ω c = .tok t (p :: q) → ω' c = .tok t (p :: q) ∧ (w.setRow b arr').heap[c]? = w.heap[c]? := by
            intro c p q hc hq'
            exact ⟨hω c _ hc hq', setRow_other w b c arr' fun e => by rw [e, hR'] at hq'; cases hq'⟩
          have hother : ∀ (g : Tag) c q, g ≠ .own t → g ≠ .ro t → (∀ s, g = .own s ∨ g = .ro s → ms.at s = none) → g.R q (ω c) → g.R q (ω' c) ∧ (w.setRow b arr').heap[c]? = w.heap[c]? := by
            intro g c q h1 h2 h3 hq'
            have hcb : c ≠ b := fun e => by
              rw [e, hR'] at hq'
              cases g with
              | free => cases hq'
              | own s => simp only [Tag.R, Owner.tok.injEq] at hq'; exact h1 (by rw [hq'.1])
              | ro s => rcases hq' with h | ⟨q', h⟩
                        · cases h
                        · simp only [Owner.tok.injEq] at h; exact h2 (by rw [h.1])
            refine ⟨?_, setRow_other w b c arr' hcb⟩
            cases g with
            | free => simp only [Tag.R] at hq' ⊢; simp [ω', hq', stOwner]
            | own s =>
              simp only [Tag.R] at hq' ⊢
              simp only [ω', hq', stOwner]
              split
              · rfl
              · rw [h3 s (.inl rfl)]
            | ro s =>
              simp only [Tag.R] at hq' ⊢
              rcases hq' with h | ⟨q', h⟩
              · left; simp [ω', h, stOwner]
              · right; refine ⟨q', ?_⟩
                simp only [ω', h, stOwner]
                split
                · rfl
                · rw [h3 s (.inr rfl)]
          -- the new elements
          have hnewrep : Rep (w.setRow b arr') ω' (Tag.own t).R (.sl k (es.set i (blitD ds j ys))) (.slice (some ⟨b, off, none⟩) es.length cap) := by
            have hlen : (es.set i (blitD ds j ys)).length = es.length := List.length_set
            have hkd : ds.length = k := hc2
            have hcell : ∀ x y d, cellAt (es.set i (blitD ds j ys)) x y = some d → ∃ u, arr'[off + x * k + y]? = some u ∧ Rep (w.setRow b arr') ω' (fun q => (Tag.own t).R ((x, y) :: q)) d u := by
              intro x y d hdx
              rw [cellAt_set hil] at hdx
              by_cases hx : x = i
              · subst hx
                rw [if_pos rfl, blitD_get (by omega)] at hdx
                split at hdx
                · rename_i hy
                  obtain ⟨l, hl1, hl2⟩ := hyg _ _ hdx
                  obtain ⟨u, hu1, hu2⟩ := hs.2 _ _ hl1
                  refine ⟨u, ?_, ?_⟩
                  · rw [hget, if_pos (by omega), ← hu1]
                    congr 1; omega
                  · have hmem : ∀ s, l.tok = some s → ms.at s = some (x, y) ∧ s ≠ t := by
                      intro s hs'
                      have := mem_movesIn x xs j (y - j) l s hl1 hs'
                      rw [show j + (y - j) = y by omega] at this
                      obtain ⟨h1, h2⟩ := movesOk_spec hc4 this
                      exact ⟨h2, h1⟩
                    cases l with
                    | und => cases hl2
                    | v z =>
                      simp only [Leaf.toD] at hl2
                      split at hl2
                      · simp only [Option.some.injEq] at hl2; subst hl2
                        have : u = z := hu2
                        subst this
                        exact .v _ _ ‹_›
                      · cases hl2
                    | sb c =>
                      simp only [Leaf.toD, Option.some.injEq] at hl2; subst hl2
                      have : u = .bool c := hu2
                      subst this
                      exact .v _ _ rfl
                    | ptr => cases hl2
                    | ep => cases hl2
                    | sl g k2 es2 =>
                      cases g with
                      | free => cases hl2
                      | ro s => cases hl2
                      | own s =>
                        simp only [Leaf.toD, Option.some.injEq] at hl2; subst hl2
                        obtain ⟨h1, h2⟩ := hmem s rfl
                        refine hu2.1.frame fun c q hc hq' => ?_
                        simp only [Tag.R] at hq' ⊢
                        refine ⟨?_, setRow_other w b c arr' fun e => ?_⟩
                        · simp only [ω', hq', stOwner]
                          rw [if_neg h2, h1]
                        · rw [e, hR'] at hq'
                          simp only [Owner.tok.injEq] at hq'
                          exact h2 hq'.1.symm
                · rename_i hy
                  have hcd : cellAt es x y = some d := by simp [cellAt, hds, hdx]
                  refine ⟨us x y, ?_, (hd x y d hcd).frame fun c q hc hq' => hlow c _ _ hc hq'⟩
                  rw [hget, if_neg (by omega), hu x y d hcd]
              · rw [if_neg hx] at hdx
                obtain ⟨hxl, hyl'⟩ := cellAt_lt hkk hdx
                refine ⟨us x y, ?_, (hd x y d hdx).frame fun c q hc hq' => hlow c _ _ hc hq'⟩
                rw [hget, if_neg ?_, hu x y d hdx]
                rcases Nat.lt_or_gt_of_ne hx with h | h
                · have : (x + 1) * k ≤ i * k := Nat.mul_le_mul_right _ h
                  rw [Nat.add_mul] at this; omega
                · have : (i + 1) * k ≤ x * k := Nat.mul_le_mul_right _ h
                  rw [Nat.add_mul] at this; omega
            have hrow2 : ∀ e ∈ es.set i (blitD ds j ys), e.length = k := by
              intro e he
              rcases List.mem_or_eq_of_mem_set he with h | rfl
              · exact hkk e h
              · rw [blitD_length (by omega)]; exact hkd
            have := Rep.row (w := w.setRow b arr') (ω := ω') (Tag.own t).R k (es.set i (blitD ds j ys)) b off cap arr' tyb (0, 0) (fun x y => arr'.getD (off + x * k + y) undef) hhs (hω b [] hblt hR') (by omega) (by omega) hrow2
              (fun x y d hd' => by obtain ⟨u, h1, _⟩ := hcell x y d hd'; rw [h1]; simp [Array.getD_eq_getD_getElem?, h1])
              (fun x y d hd' => by obtain ⟨u, h1, h2⟩ := hcell x y d hd'; have : arr'.getD (off + x * k + y) undef = u := by simp [Array.getD_eq_getD_getElem?, h1]
                                   rw [this]; exact h2)
            rw [hlen] at this
            exact this
          have hsat : ∀ l v, Sat w ω τ l v → Sat (w.setRow b arr') ω' τ (stLeaf t ms k (es.set i (blitD ds j ys)) l) v := by
            intro l v hs'
            have hms : ∀ s, ¬ (ms.at s).isSome = true → ms.at s = none := fun s h => by
              cases e : ms.at s with
              | none => rfl
              | some p => simp [e] at h
            cases l with
            | und => exact trivial
            | v x => exact hs'
            | sb c => exact hs'
            | ptr id o =>
              obtain ⟨c, hc, e⟩ := hs'
              exact ⟨c, stOwner_box.2 hc, e⟩
            | sl g k2 es2 =>
              cases g with
              | free => exact ⟨hs'.1.frame fun c q _ hq' => hother .free c q (by simp) (by simp) (fun s h => by rcases h with h | h <;> cases h) hq', trivial⟩
              | own s =>
                simp only [stLeaf]
                split
                · rename_i hst'
                  subst hst'
                  have h2 := hs'.2
                  simp only [Tag.hdr] at h2
                  rw [hh] at h2
                  simp only [Prod.mk.injEq] at h2
                  rw [← h2.2]
                  exact ⟨hnewrep, hh⟩
                · split
                  · exact trivial
                  · rename_i h1 h2
                    exact ⟨hs'.1.frame fun c q _ hq' => hother (.own s) c q (by simpa using h1) (by simp) (fun s' h => by
                      rcases h with h | h
                      · simp only [Tag.own.injEq] at h; subst h; exact hms _ h2
                      · cases h) hq', hs'.2⟩
              | ro s =>
                simp only [stLeaf]
                split
                · exact trivial
                · split
                  · exact trivial
                  · rename_i h1 h2
                    exact ⟨hs'.1.frame fun c q _ hq' => hother (.ro s) c q (by simp) (by simpa using h1) (fun s' h => by
                      rcases h with h | h
                      · cases h
                      · simp only [Tag.ro.injEq] at h; subst h; exact hms _ h2) hq', trivial⟩
            | ep g k2 es2 i2 j2 =>
              obtain ⟨b2, off2, cap2, e, hi2, hr2, hh2⟩ := hs'
              cases g with
              | free => exact ⟨b2, off2, cap2, e, hi2, hr2.frame fun c q _ hq' => hother .free c q (by simp) (by simp) (fun s h => by rcases h with h | h <;> cases h) hq', trivial⟩
              | own s =>
                simp only [stLeaf]
                split
                · rename_i hst'
                  subst hst'
                  simp only [Tag.hdr] at hh2
                  rw [hh] at hh2
                  simp only [Prod.mk.injEq, Value.slice.injEq, Option.some.injEq, Addr.mk.injEq] at hh2
                  obtain ⟨rfl, ⟨rfl, rfl, _⟩, hl2, rfl⟩ := hh2
                  refine ⟨b, off, cap, e, by simp; omega, ?_, ?_⟩
                  · rw [List.length_set]; exact hnewrep
                  · rw [List.length_set]; exact hh
                · split
                  · exact trivial
                  · rename_i h1 h2
                    exact ⟨b2, off2, cap2, e, hi2, hr2.frame fun c q _ hq' => hother (.own s) c q (by simpa using h1) (by simp) (fun s' h => by
                      rcases h with h | h
                      · simp only [Tag.own.injEq] at h; subst h; exact hms _ h2
                      · cases h) hq', hh2⟩
              | ro s =>
                simp only [stLeaf]
                split
                · exact trivial
                · split
                  · exact trivial
                  · rename_i h1 h2
                    exact ⟨b2, off2, cap2, e, hi2, hr2.frame fun c q _ hq' => hother (.ro s) c q (by simp) (by simpa using h1) (fun s' h => by
                      rcases h with h | h
                      · cases h
                      · simp only [Tag.ro.injEq] at h; subst h; exact hms _ h2) hq', trivial⟩
          refine ⟨w.setRow b arr', ?_, ω', τ, hrel.turn _ hsat ?_ ?_ ?_ ?_⟩
          · simp only [Instr.storeAt, Instr.sureAddr, Sem.run_bind, Sem.run_pure, Result.andThen_ok, storeVar, sizeOf, typeInfo, run_program, e2]
            have hsz2 : ¬ (v.cells.size ≠ inf.size) := by simp; omega
            rw [if_neg hsz2]
            exact hst
          · exact hrel.below.trans ⟨rfl, rfl, rfl, by simp, fun c hc => setRow_other w b c arr' (by omega)⟩
          · intro c hcb
            have : ω c ≠ .imm := fun e => hcb (stOwner_imm.2 e)
            obtain ⟨h3, arr2, ty2, h4⟩ := hrel.owned c this
            by_cases hcb' : c = b
            · subst hcb'; exact ⟨h3, arr', tyb, hhs⟩
            · exact ⟨h3, arr2, ty2, (setRow_other w b c arr' hcb').trans h4⟩
          · intro id c hcb
            exact ⟨stOwner_box.2 hcb, setRow_other w b c arr' fun e => by rw [e, hR'] at hcb; cases hcb⟩
          · intro id c hcb; exact stOwner_box.1 hcb
      · cases h
    · cases h
  · cases h
end Go.Sx
