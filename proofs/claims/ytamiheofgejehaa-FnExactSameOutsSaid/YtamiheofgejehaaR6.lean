/- Boxes: a local variable in memory is laid, and written. -/
import Derived.Test.YtamiheofgejehaaR5
set_option linter.unusedVariables false
set_option linter.unusedSimpArgs false
namespace Go.Sx
open Go.RowKit

def setBox (id : Nat) (ls' : List Leaf) : List (Nat × List Leaf) → List (Nat × List Leaf)
  | [] => []
  | (i, ls) :: r => if i = id then (i, ls') :: r else (i, ls) :: setBox id ls' r

theorem getBox_set_self {id : Nat} {ls' : List Leaf} : ∀ {bs : List (Nat × List Leaf)} {ls : List Leaf}, getBox id bs = some ls → getBox id (setBox id ls' bs) = some ls'
  | [], _, h => by cases h
  | (i, l) :: r, ls, h => by
    simp only [setBox]
    by_cases hi : i = id
    · rw [if_pos hi]; simp [getBox, hi]
    · rw [if_neg hi]
      simp only [getBox, if_neg hi] at h ⊢
      exact getBox_set_self h
theorem getBox_set_ne {id id' : Nat} {ls' : List Leaf} (hn : id' ≠ id) : ∀ {bs : List (Nat × List Leaf)}, getBox id' (setBox id ls' bs) = getBox id' bs
  | [] => rfl
  | (i, l) :: r => by
    simp only [setBox]
    by_cases hi : i = id
    · rw [if_pos hi]; simp only [getBox, hi]; rw [if_neg (Ne.symm hn), if_neg (Ne.symm hn)]
    · rw [if_neg hi]
      simp only [getBox]
      split
      · rfl
      · exact getBox_set_ne hn

theorem Tag.R_box {t : Tag} {q : List (Nat × Nat)} {id : Nat} : ¬ t.R q (.box id) := by
  cases t with
  | free => exact fun h => by cases h
  | own s => exact fun h => by cases h
  | ro s => exact fun h => by rcases h with h | ⟨_, h⟩ <;> cases h

/-- A store into a box turns no leaf. -/
theorem Sat.setRow_box {w : World} {ω : Own} {τ : Nat → Nat × Value} {b id : Nat} (hb : ω b = .box id) (cs : Array Value) : ∀ (l : Leaf) (v : Value), Sat w ω τ l v → Sat (w.setRow b cs) ω τ l v := by
  have ev : Evolve w ω τ (w.setRow b cs) ω τ keepT (fun _ => true) := by
    refine ⟨?_, ?_, fun _ _ _ h => h⟩
    · intro t t' b' q hg _ hq
      simp only [keepT, Option.some.injEq] at hg
      subst hg
      refine ⟨hq, setRow_other w b b' cs fun e => ?_⟩
      subst e
      rw [hb] at hq
      exact Tag.R_box hq
    · intro t t' y hg hy
      simp only [keepT, Option.some.injEq] at hg
      subst hg; exact hy
  intro l v hs
  have := ev.sat l v hs
  cases l <;> simpa [Leaf.re, keepT] using this

theorem RelAt.storeBox {w0 : World} {st : St} {a : Act} {w : World} {ω : Own} {τ : Nat → Nat × Value} (h : RelAt w0 st a w ω τ) {id : Nat} {ls ls' : List Leaf} (hg : getBox id st.boxes = some ls)
    {b : Nat} (hb : ω b = .box id) {arr' : Array Value} (hs : SatL (Sat w ω τ) ls' arr') :
    RelAt w0 ⟨st.env, setBox id ls' st.boxes⟩ a (w.setRow b arr') ω τ := by
  obtain ⟨b', arr, ty, hb', hu, hh, hsat⟩ := h.boxes id ls hg
  have := hu b hb
  subst this
  have hsat' := Sat.setRow_box (w := w) (ω := ω) (τ := τ) hb arr'
  have hhs := setRow_heap w b arr arr' ty (0, 0) hh
  refine ⟨h.defers, h.size, ?_, ?_, ?_, ?_⟩
  · exact h.below.trans ⟨rfl, rfl, rfl, by simp, fun k hk => setRow_other w b k arr' (by have := (h.owned b (by simp [hb])).1; omega)⟩
  · intro c hc
    obtain ⟨h1, arr2, ty2, h2⟩ := h.owned c hc
    by_cases e : c = b
    · subst e; exact ⟨h1, arr', ty, hhs⟩
    · exact ⟨h1, arr2, ty2, (setRow_other w b c arr' e).trans h2⟩
  · intro i p hp
    obtain ⟨v, h1, h2⟩ := h.env i p hp
    refine ⟨v, h1, ?_⟩
    have := SatP.map (f := _root_.id) hsat' h2
    have e : PV.map _root_.id p = p := by
      cases p with
      | al a => cases a <;> simp [PV.map, AL.map]
      | tup as =>
        simp only [PV.map]
        congr 1
        have : AL.map _root_.id = _root_.id := by funext a; cases a <;> simp [AL.map]
        rw [this]; simp
    rwa [e] at this
  · intro i l hl
    by_cases e : i = id
    · subst e
      rw [getBox_set_self hg] at hl
      have e := Option.some.inj hl
      subst e
      refine ⟨b, arr', ty, hb, hu, hhs, ?_⟩
      have := hs.map (f := _root_.id) hsat'
      simpa using this
    · rw [getBox_set_ne e] at hl
      obtain ⟨c, arr2, ty2, hc, hcu, hch, hcs⟩ := h.boxes i l hl
      have hne : c ≠ b := fun e' => by subst e'; rw [hb] at hc; simp only [Owner.box.injEq] at hc; exact e hc.symm
      refine ⟨c, arr2, ty2, hc, hcu, (setRow_other w b c arr' hne).trans hch, ?_⟩
      have := hcs.map (f := _root_.id) hsat'
      simpa using this

abbrev Stepped := Option (St × List Ans × List Prop)

def stepBox (st : St) (d : Nat) (p : PV) (ans : List Ans) : Stepped :=
  p.leaves.map fun ls => (⟨(st.newBox d ls).env.set d (.one (.ptr d 0)), (st.newBox d ls).boxes⟩, ans, [])

theorem RelAt.box {P : Program} {w0 : World} {st st' : St} {a : Act} {w : World} {ω : Own} {τ : Nat → Nat × Value} {d : Nat} {p : PV} {v : Value} {ans ans' : List Ans} {obs : List Prop} (hrel : RelAt w0 st a w ω τ)
    (hp : SatP (Sat w ω τ) p v) (h : stepBox st d p ans = some (st', ans', obs)) (ty : TypeId) :
    ∃ z w', (do pure (.pointer (some (← newVar ty v))) : Sem Value).run P w = .ok z w' ∧ Rel w0 st' (a.put (some d) z) w' := by
  unfold stepBox at h
  rw [Option.map_eq_some_iff] at h
  obtain ⟨ls, h1, h⟩ := h
  simp only [Prod.mk.injEq] at h
  obtain ⟨rfl, _, _⟩ := h
  obtain ⟨hs, _⟩ := PV.leaves_sat h1 hp
  obtain ⟨ω', hrel', hω⟩ := hrel.newBox d ty hs
  refine ⟨.pointer (some ⟨w.heap.size, 0, none⟩), w.alloc (.cells v.cells ty), by simp [newVar, newRow], ω', τ, ?_⟩
  exact hrel'.put (p := .one (.ptr d 0)) ⟨w.heap.size, hω, rfl⟩

def stepAlloc (P : Program) (st : St) (d : Nat) (elem : TypeId) (ans : List Ans) : Stepped :=
  match P.info? elem with
  | some i => match i.zero with
    | some z => let ls := z.cells.toList.map .v; some (⟨(st.newBox d ls).env.set d (.one (.ptr d 0)), (st.newBox d ls).boxes⟩, ans, [])
    | none => none
  | none => none

theorem RelAt.alloc {P : Program} {w0 : World} {st st' : St} {a : Act} {w : World} {ω : Own} {τ : Nat → Nat × Value} {d : Nat} {elem : TypeId} {ans ans' : List Ans} {obs : List Prop} (hrel : RelAt w0 st a w ω τ)
    (h : stepAlloc P st d elem ans = some (st', ans', obs)) :
    ∃ z w', (Instr.alloc elem true (.tuple #[])).run P w = .ok z w' ∧ Rel w0 st' (a.put (some d) z) w' := by
  unfold stepAlloc at h
  split at h
  · rename_i i hi
    split at h
    · rename_i z hz
      simp only [Option.some.injEq, Prod.mk.injEq] at h
      obtain ⟨rfl, _, _⟩ := h
      have hs : SatL (Sat w ω τ) (z.cells.toList.map .v) z.cells := by
        refine ⟨by simp, fun j l hl => ?_⟩
        rw [List.getElem?_map, Option.map_eq_some_iff] at hl
        obtain ⟨u, hu, rfl⟩ := hl
        exact ⟨u, by simpa using hu, rfl⟩
      obtain ⟨ω', hrel', hω⟩ := hrel.newBox d elem hs
      refine ⟨.pointer (some ⟨w.heap.size, 0, none⟩), w.alloc (.cells z.cells elem), by simp [Instr.alloc, zeroValue, typeInfo, hi, hz, newVar, newRow], ω', τ, ?_⟩
      exact hrel'.put (p := .one (.ptr d 0)) ⟨w.heap.size, hω, rfl⟩
    · cases h
  · cases h

def stepStoreBox (P : Program) (st : St) (t : TypeId) (id off : Nat) (q : PV) (ans : List Ans) : Stepped :=
  match getBox id st.boxes, q.leaves, P.info? t with
  | some ls, some xs, some i => if xs.length = i.size ∧ off + xs.length ≤ ls.length then some (⟨st.env, setBox id (blit ls off xs) st.boxes⟩, ans, []) else none
  | _, _, _ => none

theorem take_append_get {α : Type} {xs ys : List α} {off : Nat} (h : off + ys.length ≤ xs.length) (i : Nat) :
    (xs.take off ++ ys ++ xs.drop (off + ys.length))[i]? = if off ≤ i ∧ i < off + ys.length then ys[i - off]? else xs[i]? := by
  rw [List.append_assoc, List.getElem?_append, List.length_take, Nat.min_eq_left (by omega)]
  by_cases h1 : i < off
  · rw [if_pos h1, if_neg (by omega), List.getElem?_take, if_pos h1]
  · rw [if_neg h1, List.getElem?_append]
    by_cases h2 : i - off < ys.length
    · rw [if_pos h2, if_pos (by omega)]
    · rw [if_neg h2, if_neg (by omega), List.getElem?_drop]
      congr 1
      omega

theorem RelAt.storeAtBox {P : Program} {w0 : World} {st st' : St} {a : Act} {w : World} {ω : Own} {τ : Nat → Nat × Value} {t : TypeId} {id off : Nat} {q : PV} {b : Nat} {v : Value} {ans ans' : List Ans} {obs : List Prop}
    (hrel : RelAt w0 st a w ω τ) (hb : ω b = .box id) (hq : SatP (Sat w ω τ) q v) (h : stepStoreBox P st t id off q ans = some (st', ans', obs)) :
    ∃ w', (Instr.storeAt t (.pointer (some ⟨b, off, none⟩)) v).run P w = .ok () w' ∧ Rel w0 st' a w' := by
  unfold stepStoreBox at h
  split at h
  · rename_i ls xs i e1 e2 e3
    split at h
    · rename_i hc
      simp only [Option.some.injEq, Prod.mk.injEq] at h
      obtain ⟨rfl, _, _⟩ := h
      obtain ⟨hs, hone⟩ := PV.leaves_sat e2 hq
      obtain ⟨b', arr, ty, hb', hu, hh, hsat⟩ := hrel.boxes id ls e1
      have := hu b hb
      subst this
      have hst := run_storeCells_at P b off ty v.cells.toList 0 arr w hh (by simp; have := hs.1; have := hsat.1; omega) hone
      have hnew : SatL (Sat w ω τ) (blit ls off xs) (arr.toList.take (off + 0) ++ v.cells.toList ++ arr.toList.drop (off + 0 + v.cells.toList.length)).toArray := by
        have h1 := hs.1
        have h2 := hsat.1
        refine ⟨?_, fun j l hl => ?_⟩
        · rw [blit_length (by omega)]; simp; omega
        · rw [blit_get (by omega)] at hl
          rw [List.getElem?_toArray, Nat.add_zero, take_append_get (by simp; omega)]
          simp only [Array.length_toList]
          by_cases hj : off ≤ j ∧ j < off + xs.length
          · rw [if_pos hj] at hl
            rw [if_pos (by omega)]
            obtain ⟨u, h3, h4⟩ := hs.2 _ _ hl
            exact ⟨u, by simpa using h3, h4⟩
          · rw [if_neg hj] at hl
            rw [if_neg (by omega)]
            obtain ⟨u, h3, h4⟩ := hsat.2 _ _ hl
            exact ⟨u, by simpa using h3, h4⟩
      refine ⟨_, ?_, ω, τ, hrel.storeBox e1 hb hnew⟩
      simp only [Instr.storeAt, Instr.sureAddr, Sem.run_bind, Sem.run_pure, Result.andThen_ok, storeVar, sizeOf, typeInfo, run_program, e3]
      have hsz : ¬ (v.cells.size ≠ i.size) := by simp; have := hs.1; omega
      rw [if_neg hsz]
      exact hst
    · cases h
  · cases h
end Go.Sx
