/- Boxes: a local variable in memory is laid, and written. -/
import Derived.Test.YtialmplmfcahpaaGreatR4
set_option linter.unusedVariables false
set_option linter.unusedSimpArgs false
namespace Go.Sx
open Go.RowKit
def qdl (id : Nat) (ls' : List Leaf) : List (Nat × List Leaf) → List (Nat × List Leaf)
  | [] => []
  | (i, ls) :: r => if i = id then (i, ls') :: r else (i, ls) :: qdl id ls' r
theorem qj9 {id : Nat} {ls' : List Leaf} : ∀ {bs : List (Nat × List Leaf)} {ls : List Leaf}, qaz id bs = some ls → qaz id (qdl id ls' bs) = some ls'
  | [], _, h => by cases h
  | (i, l) :: r, ls, h => by
    simp only [qdl]
    by_cases hi : i = id
    · rw [if_pos hi]; simp [qaz, hi]
    · rw [if_neg hi]
      simp only [qaz, if_neg hi] at h ⊢
      exact qj9 h
theorem qka {id id' : Nat} {ls' : List Leaf} (hn : id' ≠ id) : ∀ {bs : List (Nat × List Leaf)}, qaz id' (qdl id ls' bs) = qaz id' bs
  | [] => rfl
  | (i, l) :: r => by
    simp only [qdl]
    by_cases hi : i = id
    · rw [if_pos hi]; simp only [qaz, hi]; rw [if_neg (Ne.symm hn), if_neg (Ne.symm hn)]
    · rw [if_neg hi]
      simp only [qaz]
      split
      · rfl
      · exact qka hn
theorem Tag.R_box {t : Tag} {q : List (Nat × Nat)} {id : Nat} : ¬ t.R q (.box id) := by
  cases t with
  | free => exact fun h => by cases h
  | own s => exact fun h => by cases h
  | ro s => exact fun h => by rcases h with h | ⟨_, h⟩ <;> cases h
theorem Sat.setRow_box {w : World} {ω : Own} {τ : Nat → Nat × Value} {b id : Nat} (hb : ω b = .box id) (cs : Array Value) : ∀ (l : Leaf) (v : Value), Sat w ω τ l v → Sat (w.setRow b cs) ω τ l v := by
  have ev : Evolve w ω τ (w.setRow b cs) ω τ keepT (fun _ => true) := by
    refine ⟨?_, ?_, fun _ _ _ h => h, rfl⟩
    · intro t t' b' q hg _ hq
      simp only [keepT, Option.some.injEq] at hg
      subst hg
      refine ⟨hq, setRow_other w b b' cs fun e => ?_⟩
      subst e
      rw [hb] at hq
      exact Tag.R_box hq
    · intro t t' y hg hy
      simp only [keepT, Option.some.injEq] at hg
      subst hg; exact hy
  intro l v hs
  have := ev.sat l v hs
  cases l with
  | sn t i j k es m =>
    obtain ⟨u, hu, h1, hm⟩ := hs
    refine ⟨u, hu, h1.frame fun c q hc hq => ⟨hq, setRow_other w b c cs fun e => ?_⟩, fun hh => ?_⟩
    · subst e; rw [hb] at hq; cases hq
    · obtain ⟨kT, b2, off, len, cap, arr, ty, fr, h2, h5, h3, h4⟩ := hm hh
      exact ⟨kT, b2, off, len, cap, arr, ty, fr, h2, h5, (setRow_other w b b2 cs fun e => by subst e; rw [hb] at h5; cases h5).trans h3, h4⟩
  | np t vs =>
    obtain ⟨b2, ty, arr, e, h5, h3, hn, hv⟩ := hs
    refine ⟨b2, ty, arr, e, h5, (setRow_other w b b2 cs fun e => by subst e; rw [hb] at h5; cases h5).trans h3, hn, fun j c hc => ?_⟩
    obtain ⟨u, h1, h2⟩ := hv j c hc
    refine ⟨u, h1, ?_⟩
    have h9 := ev.nc c u h2
    have : NC.re keepT c = c := by cases c <;> simp [NC.re, keepT]
    rwa [this] at h9
  | _ => simpa [Leaf.re, keepT] using this
theorem RelAt.storeBox {w0 : Base} {st : St} {a : Act} {w : World} {ω : Own} {τ : Nat → Nat × Value} (h : RelAt w0 st a w ω τ) {id : Nat} {ls ls' : List Leaf} (hg : qaz id st.boxes = some ls)
    {b : Nat} (hb : ω b = .box id) {arr' : Array Value} (hs : SatL (Sat w ω τ) ls' arr') :
    RelAt w0 ⟨st.env, qdl id ls' st.boxes⟩ a (w.setRow b arr') ω τ := by
  obtain ⟨b', arr, ty, hb', hu, hh, hsat⟩ := h.boxes id ls hg
  have := hu b hb
  subst this
  have hsat' := Sat.setRow_box (w := w) (ω := ω) (τ := τ) hb arr'
  have hhs := setRow_heap w b arr arr' ty (0, 0) hh
  refine ⟨h.defers, h.size, ?_, ?_, h.fixed, h.pinned, ?_, ?_⟩
  · exact h.below.setRow (h.owned b (by simp [hb])).1 arr'
  · intro c hc
    obtain ⟨h1, arr2, ty2, h2⟩ := h.owned c hc
    by_cases e : c = b
    · subst e; exact ⟨h1, arr', ty, hhs⟩
    · exact ⟨h1, arr2, ty2, (setRow_other w b c arr' e).trans h2⟩
  · intro i p hp
    obtain ⟨v, h1, h2⟩ := h.env i p hp
    refine ⟨v, h1, ?_⟩
    have := SatP.map (f := _root_.id) hsat' h2
    have e : PV.map _root_.id p = p := by
      cases p with
      | al a => cases a <;> simp [PV.map, AL.map]
      | tup as =>
        simp only [PV.map]
        congr 1
        have : AL.map _root_.id = _root_.id := by funext a; cases a <;> simp [AL.map]
        rw [this]; simp
    rwa [e] at this
  · intro i l hl
    by_cases e : i = id
    · subst e
      rw [qj9 hg] at hl
      have e := Option.some.inj hl
      subst e
      refine ⟨b, arr', ty, hb, hu, hhs, ?_⟩
      have := hs.map (f := _root_.id) hsat'
      simpa using this
    · rw [qka e] at hl
      obtain ⟨c, arr2, ty2, hc, hcu, hch, hcs⟩ := h.boxes i l hl
      have hne : c ≠ b := fun e' => by subst e'; rw [hb] at hc; simp only [Owner.box.injEq] at hc; exact e hc.symm
      refine ⟨c, arr2, ty2, hc, hcu, (setRow_other w b c arr' hne).trans hch, ?_⟩
      have := hcs.map (f := _root_.id) hsat'
      simpa using this
abbrev Stepped := Option (St × List Ans × List Prop)
def qhw (st : St) (d : Nat) (p : PV) (ans : List Ans) : Stepped :=
  if d < giv then p.leaves.map fun ls => (⟨(st.newBox d ls).env.set d (.one (.ptr d 0)), (st.newBox d ls).boxes⟩, ans, []) else none
theorem RelAt.box {P : Program} {w0 : Base} {st st' : St} {a : Act} {w : World} {ω : Own} {τ : Nat → Nat × Value} {d : Nat} {p : PV} {v : Value} {ans ans' : List Ans} {obs : List Prop} (hrel : RelAt w0 st a w ω τ)
    (hp : SatP (Sat w ω τ) p v) (h : qhw st d p ans = some (st', ans', obs)) (ty : TypeId) :
    ∃ z w', (do pure (.pointer (some (← newVar ty v))) : Sem Value).run P w = .ok z w' ∧ Rel w0 st' (a.put (some d) z) w' := by
  unfold qhw at h
  split at h
  case isFalse => cases h
  rename_i hdg
  rw [Option.map_eq_some_iff] at h
  obtain ⟨ls, h1, h⟩ := h
  simp only [Prod.mk.injEq] at h
  obtain ⟨rfl, _, _⟩ := h
  obtain ⟨hs, _⟩ := PV.leaves_sat h1 hp
  obtain ⟨ω', hrel', hω⟩ := hrel.newBox d hdg ty hs
  refine ⟨.pointer (some ⟨w.heap.size, 0, none⟩), w.alloc (.cells v.cells ty), by simp [newVar, newRow], ω', τ, ?_⟩
  exact hrel'.put (p := .one (.ptr d 0)) ⟨w.heap.size, hω, rfl⟩
def qhx (P : Program) (st : St) (d : Nat) (elem : TypeId) (ans : List Ans) : Stepped :=
  match P.info? elem with
  | some i => match i.zero with
    | some z => if d < giv then let ls := z.cells.toList.map .v; some (⟨(st.newBox d ls).env.set d (.one (.ptr d 0)), (st.newBox d ls).boxes⟩, ans, []) else none
    | none => none
  | none => none
theorem RelAt.alloc {P : Program} {w0 : Base} {st st' : St} {a : Act} {w : World} {ω : Own} {τ : Nat → Nat × Value} {d : Nat} {elem : TypeId} {ans ans' : List Ans} {obs : List Prop} (hrel : RelAt w0 st a w ω τ)
    (h : qhx P st d elem ans = some (st', ans', obs)) :
    ∃ z w', (Instr.alloc elem true (.tuple #[])).run P w = .ok z w' ∧ Rel w0 st' (a.put (some d) z) w' := by
  unfold qhx at h
  split at h
  · rename_i i hi
    split at h
    · rename_i z hz
      split at h
      case isFalse => cases h
      rename_i hdg
      simp only [Option.some.injEq, Prod.mk.injEq] at h
      obtain ⟨rfl, _, _⟩ := h
      have hs : SatL (Sat w ω τ) (z.cells.toList.map .v) z.cells := by
        refine ⟨by simp, fun j l hl => ?_⟩
        rw [List.getElem?_map, Option.map_eq_some_iff] at hl
        obtain ⟨u, hu, rfl⟩ := hl
        exact ⟨u, by simpa using hu, rfl⟩
      obtain ⟨ω', hrel', hω⟩ := hrel.newBox d hdg elem hs
      refine ⟨.pointer (some ⟨w.heap.size, 0, none⟩), w.alloc (.cells z.cells elem), by simp [Instr.alloc, zeroValue, typeInfo, hi, hz, newVar, newRow], ω', τ, ?_⟩
      exact hrel'.put (p := .one (.ptr d 0)) ⟨w.heap.size, hω, rfl⟩
    · cases h
  · cases h
def qhy (P : Program) (st : St) (t : TypeId) (id off : Nat) (q : PV) (ans : List Ans) : Stepped :=
  match qaz id st.boxes, q.leaves, P.info? t with
  | some ls, some xs, some i => if xs.length = i.size ∧ off + xs.length ≤ ls.length then some (⟨st.env, qdl id (blit ls off xs) st.boxes⟩, ans, []) else none
  | _, _, _ => none
theorem qhz {α : Type} {xs ys : List α} {off : Nat} (h : off + ys.length ≤ xs.length) (i : Nat) :
    (xs.take off ++ ys ++ xs.drop (off + ys.length))[i]? = if off ≤ i ∧ i < off + ys.length then ys[i - off]? else xs[i]? := by
  rw [List.append_assoc, List.getElem?_append, List.length_take, Nat.min_eq_left (by omega)]
  by_cases h1 : i < off
  · rw [if_pos h1, if_neg (by omega), List.getElem?_take, if_pos h1]
  · rw [if_neg h1, List.getElem?_append]
    by_cases h2 : i - off < ys.length
    · rw [if_pos h2, if_pos (by omega)]
    · rw [if_neg h2, if_neg (by omega), List.getElem?_drop]
      congr 1
      omega
theorem RelAt.storeAtBox {P : Program} {w0 : Base} {st st' : St} {a : Act} {w : World} {ω : Own} {τ : Nat → Nat × Value} {t : TypeId} {id off : Nat} {q : PV} {b : Nat} {v : Value} {ans ans' : List Ans} {obs : List Prop}
    (hrel : RelAt w0 st a w ω τ) (hb : ω b = .box id) (hq : SatP (Sat w ω τ) q v) (h : qhy P st t id off q ans = some (st', ans', obs)) :
    ∃ w', (Instr.storeAt t (.pointer (some ⟨b, off, none⟩)) v).run P w = .ok () w' ∧ Rel w0 st' a w' := by
  unfold qhy at h
  split at h
  · rename_i ls xs i e1 e2 e3
    split at h
    · rename_i hc
      simp only [Option.some.injEq, Prod.mk.injEq] at h
      obtain ⟨rfl, _, _⟩ := h
      obtain ⟨hs, hone⟩ := PV.leaves_sat e2 hq
      obtain ⟨b', arr, ty, hb', hu, hh, hsat⟩ := hrel.boxes id ls e1
      have := hu b hb
      subst this
      have hst := run_storeCells_at P b off ty v.cells.toList 0 arr w hh (by simp; have := hs.1; have := hsat.1; omega) hone
      have hnew : SatL (Sat w ω τ) (blit ls off xs) (arr.toList.take (off + 0) ++ v.cells.toList ++ arr.toList.drop (off + 0 + v.cells.toList.length)).toArray := by
        have h1 := hs.1
        have h2 := hsat.1
        refine ⟨?_, fun j l hl => ?_⟩
        · rw [qhi (by omega)]; simp; omega
        · rw [qj6 (by omega)] at hl
          rw [List.getElem?_toArray, Nat.add_zero, qhz (by simp; omega)]
          simp only [Array.length_toList]
          by_cases hj : off ≤ j ∧ j < off + xs.length
          · rw [if_pos hj] at hl
            rw [if_pos (by omega)]
            obtain ⟨u, h3, h4⟩ := hs.2 _ _ hl
            exact ⟨u, by simpa using h3, h4⟩
          · rw [if_neg hj] at hl
            rw [if_neg (by omega)]
            obtain ⟨u, h3, h4⟩ := hsat.2 _ _ hl
            exact ⟨u, by simpa using h3, h4⟩
      refine ⟨_, ?_, ω, τ, hrel.storeBox e1 hb hnew⟩
      simp only [Instr.storeAt, Instr.sureAddr, Sem.run_bind, Sem.run_pure, Result.andThen_ok, storeVar, sizeOf, typeInfo, run_program, e3]
      have hsz : ¬ (v.cells.size ≠ i.size) := by simp; have := hs.1; omega
      rw [if_neg hsz]
      exact hst
    · cases h
  · cases h
end Go.Sx
namespace Go.Sx
open Go.RowKit
theorem RelAt.turn {w0 : Base} {st : St} {a : Act} {w w' : World} {ω ω' : Own} {τ τ' : Nat → Nat × Value} (h : RelAt w0 st a w ω τ) (f : Leaf → Leaf)
    (hsat : ∀ l v, Sat w ω τ l v → Sat w' ω' τ' (f l) v) (hbelow : Bel w0 w') (howned : Owned w0 w' ω')
    (hbox : ∀ id b, ω b = .box id → ω' b = .box id ∧ w'.heap[b]? = w.heap[b]?) (hboxU : ∀ id b, ω' b = .box id → ω b = .box id) (hfix : ∀ t, giv ≤ t → τ' t = τ t := by intros; rfl) : RelAt w0 (st.map f) a w' ω' τ' where
  defers := h.defers
  size := by simp [St.map, h.size]
  below := hbelow
  owned := howned
  fixed := fun t ht => (hfix t ht).trans (h.fixed t ht)
  pinned := fun id b hi hb => h.pinned id b hi (hboxU id b hb)
  env := by
    intro i q hq
    simp only [St.map] at hq
    rw [List.getElem?_map, Option.map_eq_some_iff] at hq
    obtain ⟨q0, h0, rfl⟩ := hq
    obtain ⟨v, h1, h2⟩ := h.env i q0 h0
    exact ⟨v, h1, SatP.map hsat h2⟩
  boxes := by
    intro id ls hl
    simp only [St.map] at hl
    rw [qe0, Option.map_eq_some_iff] at hl
    obtain ⟨ls0, h0, rfl⟩ := hl
    obtain ⟨b, arr, ty, hb, hu, hh, hs⟩ := h.boxes id ls0 h0
    obtain ⟨h1, h2⟩ := hbox id b hb
    exact ⟨b, arr, ty, h1, fun b' hb' => hu b' (hboxU id b' hb'), h2.trans hh, hs.map hsat⟩
abbrev Moves := List (Nat × (Nat × Nat))
def Moves.at (s : Nat) : Moves → Option (Nat × Nat)
  | [] => none
  | (i, p) :: r => if i = s then some p else Moves.at s r
def mvTag (t : Nat) (ms : Moves) : Tag → Option Tag
  | .free => some .free
  | .own s => if s = t then some .free else if (ms.at s).isSome then none else some (.own s)
  | .ro s => if s = t then some .free else if (ms.at s).isSome then none else some (.ro s)
def qbK (t : Nat) (ms : Moves) : Owner → Owner
  | .tok s q => if s = t then .imm else match ms.at s with | some p => .tok t (p :: q) | none => .tok s q
  | o => o
theorem qfG {t : Nat} {ms : Moves} {o : Owner} {id : Nat} : qbK t ms o = .box id ↔ o = .box id := by
  cases o with
  | imm => simp [qbK]
  | box i => simp [qbK]
  | tok s q =>
    simp only [qbK]
    split
    · simp
    · split <;> simp
theorem qkb {t : Nat} {ms : Moves} {g g' : Tag} {q : List (Nat × Nat)} {o : Owner} (h : mvTag t ms g = some g') (hr : g.R q o) : g'.R q (qbK t ms o) := by
  cases g with
  | free => simp only [mvTag, Option.some.injEq] at h; subst h; simp only [Tag.R] at hr ⊢; rw [hr]; rfl
  | own s =>
    simp only [Tag.R] at hr
    subst hr
    simp only [mvTag] at h
    simp only [qbK]
    split at h
    · simp only [Option.some.injEq] at h; subst h; rw [if_pos ‹_›]; rfl
    · split at h
      · cases h
      · rename_i h1 h2
        simp only [Option.some.injEq] at h; subst h
        rw [if_neg h1]
        cases e : ms.at s with
        | none => rfl
        | some p => simp [e] at h2
  | ro s =>
    simp only [Tag.R] at hr
    simp only [mvTag] at h
    split at h
    · simp only [Option.some.injEq] at h; subst h
      rcases hr with rfl | ⟨q', rfl⟩
      · rfl
      · simp only [qbK]; rw [if_pos ‹_›]; rfl
    · split at h
      · cases h
      · rename_i h1 h2
        simp only [Option.some.injEq] at h; subst h
        rcases hr with rfl | ⟨q', rfl⟩
        · exact .inl rfl
        · refine .inr ⟨q', ?_⟩
          simp only [qbK]
          rw [if_neg h1]
          cases e : ms.at s with
          | none => rfl
          | some p => simp [e] at h2
def qbL (w : World) (ω : Own) (t : Nat) (ms : Moves) : Own := fun b => if b = w.heap.size then .tok t [] else qbK t ms (ω b)
def qes (w : World) (τ : Nat → Nat × Value) (t k n c : Nat) : Nat → Nat × Value := fun s => if s = t then (k, .slice (some ⟨w.heap.size, 0, none⟩) n c) else τ s
def St.newTok (st : St) (t : Nat) (ms : Moves) : St := st.map (Leaf.re (mvTag t ms) fun _ => true)
theorem qnM {w w1 : World} {ω : Own} {τ : Nat → Nat × Value} {t k n c : Nat} {ms : Moves} (hf : ω w.heap.size = .imm) (hh : ∀ b, b < w.heap.size → w1.heap[b]? = w.heap[b]?) :
    Evolve w ω τ w1 (qbL w ω t ms) (qes w τ t k n c) (mvTag t ms) (fun _ => true) := by
  refine ⟨?_, ?_, ?_, rfl⟩
  · intro g g' b q hg hb hq
    refine ⟨?_, hh b hb⟩
    simp only [qbL]
    rw [if_neg (by omega)]
    exact qkb hg hq
  · intro g g' y hg hy
    cases g with
    | free => simp only [mvTag, Option.some.injEq] at hg; subst hg; exact trivial
    | own s =>
      simp only [mvTag] at hg
      split at hg
      · simp only [Option.some.injEq] at hg; subst hg; exact trivial
      · split at hg
        · cases hg
        · simp only [Option.some.injEq] at hg; subst hg
          simp only [Tag.hdr, qes] at hy ⊢
          rw [if_neg ‹_›]; exact hy
    | ro s =>
      simp only [mvTag] at hg
      split at hg
      · simp only [Option.some.injEq] at hg; subst hg; exact trivial
      · split at hg
        · cases hg
        · simp only [Option.some.injEq] at hg; subst hg; exact trivial
  · intro id b _ hb
    simp only [qbL]
    by_cases e : b = w.heap.size
    · subst e; rw [hf] at hb; cases hb
    · rw [if_neg e, hb]; rfl
def Leaf.toD : Leaf → Option D
  | .v x => if x.oneCell' then some (.v x) else none
  | .sb c => some (.v (.bool c))
  | .sl (.own _) k es => some (.sl k es)
  | _ => none
def Leaf.tok : Leaf → Option Nat
  | .sl (.own s) _ _ => some s
  | _ => none
def qfH (w : World) (ω : Own) (τ : Nat → Nat × Value) (t : Nat) (ms : Moves) (i j : Nat) (d : D) (u : Value) : Prop :=
  ∃ l : Leaf, l.toD = some d ∧ Sat w ω τ l u ∧ ∀ s, l.tok = some s → s ≠ t ∧ ms.at s = some (i, j)
theorem qfH.rep {w w1 : World} {ω : Own} {τ : Nat → Nat × Value} {t : Nat} {ms : Moves} {i j : Nat} {d : D} {u : Value} (h : qfH w ω τ t ms i j d u) (hh : ∀ b, b < w.heap.size → w1.heap[b]? = w.heap[b]?) :
    Rep w1 (qbL w ω t ms) (fun q => (Tag.own t).R ((i, j) :: q)) d u := by
  obtain ⟨l, hd, hs, hm⟩ := h
  cases l with
  | und => cases hd
  | v x =>
    simp only [Leaf.toD] at hd
    split at hd
    · simp only [Option.some.injEq] at hd; subst hd
      have : u = x := hs
      subst this
      exact .v _ _ ‹_›
    · cases hd
  | sb c =>
    simp only [Leaf.toD, Option.some.injEq] at hd; subst hd
    have : u = .bool c := hs
    subst this
    exact .v _ _ rfl
  | sl g k es =>
    cases g with
    | free => cases hd
    | ro s => cases hd
    | own s =>
      simp only [Leaf.toD, Option.some.injEq] at hd; subst hd
      obtain ⟨hne, hat⟩ := hm s rfl
      refine hs.1.frame fun b q hb hq => ⟨?_, hh b hb⟩
      simp only [Tag.R] at hq ⊢
      simp only [qbL]
      rw [if_neg (by omega), hq]
      simp only [qbK]
      rw [if_neg hne, hat]
  | ptr id off => cases hd
  | ep g k es i j => cases hd
  | rp => cases hd
  | fd => cases hd
  | clo => cases hd
  | sn => cases hd
  | np => cases hd
theorem RelAt.newTok {w0 : Base} {st : St} {a : Act} {w w1 : World} {ω : Own} {τ : Nat → Nat × Value} (h : RelAt w0 st a w ω τ) (t : Nat) (htg : t < giv) (ms : Moves) {k cap : Nat} {es : List (List D)} {arr : Array Value} {ty : TypeId}
    (hb : Blw w.heap.size w w1) (hnew : w1.heap[w.heap.size]? = some (.cells arr ty (0, 0))) (hc : es.length ≤ cap) (hsz : cap * k ≤ arr.size) (hk : ∀ e ∈ es, e.length = k)
    (hcell : ∀ i j d, qao es i j = some d → ∃ u, arr[i * k + j]? = some u ∧ qfH w ω τ t ms i j d u) :
    RelAt w0 (st.newTok t ms) a w1 (qbL w ω t ms) (qes w τ t k es.length cap) ∧
    Sat w1 (qbL w ω t ms) (qes w τ t k es.length cap) (.sl (.own t) k es) (.slice (some ⟨w.heap.size, 0, none⟩) es.length cap) := by
  have hf : ω w.heap.size = .imm := h.owned.fresh (Nat.le_refl _)
  have hblk := hb.block
  have hlt1 : w.heap.size < w1.heap.size := (Array.getElem?_eq_some_iff.1 hnew).1
  have hself : qbL w ω t ms w.heap.size = .tok t [] := by simp [qbL]
  have hother : ∀ b, b ≠ w.heap.size → qbL w ω t ms b = qbK t ms (ω b) := fun b hb => by simp [qbL, hb]
  refine ⟨h.turn _ (qnM hf hblk).sat ?_ ?_ ?_ ?_ (fun s hs => by simp only [qes]; rw [if_neg (by omega)]), ?_, ?_⟩
  · exact h.below.next hb
  · intro b hbi
    by_cases e : b = w.heap.size
    · subst e; exact ⟨.inl h.below.size, arr, ty, hnew⟩
    · rw [hother b e] at hbi
      have h2 : ω b ≠ .imm := fun e' => by rw [e'] at hbi; exact hbi rfl
      obtain ⟨h3, arr2, ty2, h4⟩ := h.owned b h2
      exact ⟨h3, arr2, ty2, (hblk b (h.owned.lt h2)).trans h4⟩
  · intro id b hbi
    have hlt := h.owned.lt (b := b) (by simp [hbi])
    rw [hother b (by omega), hbi]
    exact ⟨rfl, hblk b hlt⟩
  · intro id b hbi
    by_cases e : b = w.heap.size
    · subst e; rw [hself] at hbi; cases hbi
    · rw [hother b e] at hbi
      exact qfG.1 hbi
  · have hus : ∀ i j d, qao es i j = some d → arr[0 + i * k + j]? = some (arr.getD (i * k + j) undef) ∧ qfH w ω τ t ms i j d (arr.getD (i * k + j) undef) := by
      intro i j d hd
      obtain ⟨u, h1, h2⟩ := hcell i j d hd
      have e : arr.getD (i * k + j) undef = u := by simp [Array.getD_eq_getD_getElem?, h1]
      rw [e]
      exact ⟨by rw [Nat.zero_add]; exact h1, h2⟩
    exact .row _ k es w.heap.size 0 cap arr ty (0, 0) (fun i j => arr.getD (i * k + j) undef) hnew hself hc (by omega) hk (fun i j d hd => (hus i j d hd).1) (fun i j d hd => (hus i j d hd).2.rep hblk)
  · simp [Tag.hdr, qes]
def qhA (P : Program) (st : St) (d : Nat) (t : TypeId) (p q : PV) (ans : List Ans) : Stepped :=
  match P.underlying t with
  | some (.slice e) =>
    match P.info? e, p.int, q.int with
    | some i, some (_, l), some (_, c) =>
      match i.zero with
      | some z =>
        if i.size = z.cells.size ∧ 0 < i.size ∧ z.cells.all (·.oneCell') = true ∧ d < giv then
          some (⟨(st.newTok d []).env.set d (.one (.sl (.own d) i.size (List.replicate l.toNat (z.cells.toList.map .v)))), (st.newTok d []).boxes⟩, ans, [0 ≤ l, l ≤ c, (i.bytes : Int) * c ≤ 281474976710656, c ≤ 9223372036854775807])
        else none
      | none => none
    | _, _, _ => none
  | _ => none
theorem qkc (z : Array Value) (n i j : Nat) (hi : i < n) (hj : j < z.size) : (madeCells z (n * z.size))[i * z.size + j]? = z[j]? := by
  have hlt : i * z.size + j < n * z.size := by
    have : (i + 1) * z.size ≤ n * z.size := Nat.mul_le_mul_right _ hi
    rw [Nat.add_mul] at this; omega
  have e : (i * z.size + j) % z.size = j := by rw [Nat.add_comm, Nat.add_mul_mod_self_right]; exact Nat.mod_eq_of_lt hj
  simp [madeCells, hlt, e, getElem!_pos, hj]
theorem qnN {n : Nat} {e : List D} {i j : Nat} {d : D} (h : qao (List.replicate n e) i j = some d) : i < n ∧ e[j]? = some d := by
  unfold qao at h
  rw [List.getElem?_replicate] at h
  split at h
  · exact ⟨‹_›, h⟩
  · simp at h
theorem RelAt.make {P : Program} {w0 : Base} {st st' : St} {a : Act} {w : World} {ω : Own} {τ : Nat → Nat × Value} {d : Nat} {t : TypeId} {p q : PV} {u v : Value} {ans ans' : List Ans} {obs : List Prop}
    (hrel : RelAt w0 st a w ω τ) (hp : SatP (Sat w ω τ) p u) (hq : SatP (Sat w ω τ) q v) (h : qhA P st d t p q ans = some (st', ans', obs)) (ho : Obs obs) :
    ∃ z w', (Instr.makeSlice t u v).run P w = .ok z w' ∧ Rel w0 st' (a.put (some d) z) w' := by
  unfold qhA at h
  split at h
  · rename_i e hu
    split at h
    · rename_i i k1 l k2 c hi e1 e2
      split at h
      · rename_i z hz
        split at h
        · rename_i hc
          obtain ⟨hc1, hc2, hc3, hcg⟩ := hc
          simp only [Option.some.injEq, Prod.mk.injEq] at h
          obtain ⟨rfl, _, rfl⟩ := h
          obtain ⟨o1, o2, o3, o4, _⟩ := ho
          rw [PV.int_sat e1 hp, PV.int_sat e2 hq]
          have hrun := run_make (P := P) w t e i z hu hi hz k1 k2 l c o1 o2 o3 o4
          have hnew : (w.alloc (.cells (madeCells z.cells (c.toNat * i.size)) e)).heap[w.heap.size]? = some (.cells (madeCells z.cells (c.toNat * i.size)) e (0, 0)) := qbH _ _
          have hsz : (madeCells z.cells (c.toNat * i.size)).size = c.toNat * i.size := by simp [madeCells]
          have hN := hrel.newTok d hcg [] (k := i.size) (cap := c.toNat) (es := List.replicate l.toNat (z.cells.toList.map .v)) (w1 := w.alloc (.cells (madeCells z.cells (c.toNat * i.size)) e))
            ((Blw.refl _ _).alloc (Nat.le_refl _) _) hnew (by simp; omega) (by omega) (fun e' he => by rw [List.eq_of_mem_replicate he]; simp [hc1]) (fun x j dd hd => by
              obtain ⟨hx, hd⟩ := qnN hd
              rw [List.getElem?_map, Option.map_eq_some_iff] at hd
              obtain ⟨u', hu', rfl⟩ := hd
              have hj : j < z.cells.size := by
                have := (List.getElem?_eq_some_iff.1 hu').1
                simpa using this
              refine ⟨u', ?_, .v u', ?_, rfl, fun s hs => by cases hs⟩
              · rw [hc1, qkc z.cells c.toNat x j (by omega) hj]
                simpa using hu'
              · have : u'.oneCell' = true := by
                  have h1 := Array.all_eq_true'.1 hc3
                  exact h1 u' (by simpa using List.mem_of_getElem? hu')
                simp [Leaf.toD, this])
          simp only [List.length_replicate] at hN
          exact ⟨_, _, hrun, _, _, hN.1.put (p := .one (.sl (.own d) i.size (List.replicate l.toNat (z.cells.toList.map .v)))) hN.2⟩
        · cases h
      · cases h
    · cases h
  · cases h
end Go.Sx
namespace Go.Sx
open Go.RowKit
def qbs (k : Nat) : Nat → List Leaf → List (List Leaf)
  | 0, _ => []
  | n + 1, ls => ls.take k :: qbs k n (ls.drop k)
theorem qhB (k : Nat) : ∀ (n : Nat) (ls : List Leaf) (i : Nat), (qbs k n ls)[i]? = if i < n then some ((ls.drop (i * k)).take k) else none
  | 0, ls, i => by simp [qbs]
  | n + 1, ls, 0 => by simp [qbs]
  | n + 1, ls, i + 1 => by
    simp only [qbs, List.getElem?_cons_succ, qhB k n]
    by_cases h : i < n
    · rw [if_pos h, if_pos (by omega), List.drop_drop]
      congr 3
      rw [Nat.add_mul]; omega
    · rw [if_neg h, if_neg (by omega)]
theorem qkd (k : Nat) : ∀ (n : Nat) (ls : List Leaf), (qbs k n ls).length = n
  | 0, _ => rfl
  | n + 1, ls => by simp [qbs, qkd k n]
def qba (i : Nat) : Nat → List Leaf → Moves
  | _, [] => []
  | j, l :: ls => match l.tok with
    | some s => (s, (i, j)) :: qba i (j + 1) ls
    | none => qba i (j + 1) ls
def qb6 : Nat → List (List Leaf) → Moves
  | _, [] => []
  | i, e :: es => qba i 0 e ++ qb6 (i + 1) es
def qet (t : Nat) (ms : Moves) : Bool := decide (t < giv) && ms.all fun x => x.1 ≠ t && (match ms.at x.1 with | some p => p.1 == x.2.1 && p.2 == x.2.2 | none => false)
theorem qhC (i : Nat) : ∀ (ls : List Leaf) (j0 j : Nat) (l : Leaf) (s : Nat), ls[j]? = some l → l.tok = some s → (s, (i, j0 + j)) ∈ qba i j0 ls
  | [], _, _, _, _, h, _ => by simp at h
  | l0 :: ls, j0, 0, l, s, h, hs => by
    simp at h; subst h
    simp only [qba, hs]
    exact List.mem_cons_self
  | l0 :: ls, j0, j + 1, l, s, h, hs => by
    have := qhC i ls (j0 + 1) j l s (by simpa using h) hs
    rw [show j0 + 1 + j = j0 + (j + 1) by omega] at this
    simp only [qba]
    split
    · exact List.mem_cons_of_mem _ this
    · exact this
theorem qke : ∀ (es : List (List Leaf)) (i0 i j : Nat) (e : List Leaf) (l : Leaf) (s : Nat), es[i]? = some e → e[j]? = some l → l.tok = some s → (s, (i0 + i, j)) ∈ qb6 i0 es
  | [], _, _, _, _, _, _, h, _, _ => by simp at h
  | e0 :: es, i0, 0, j, e, l, s, h, hl, hs => by
    simp at h; subst h
    simp only [qb6]
    have := qhC i0 e0 0 j l s hl hs
    rw [Nat.zero_add] at this
    exact List.mem_append_left _ this
  | e0 :: es, i0, i + 1, j, e, l, s, h, hl, hs => by
    have := qke es (i0 + 1) i j e l s (by simpa using h) hl hs
    rw [show i0 + 1 + i = i0 + (i + 1) by omega] at this
    simp only [qb6]
    exact List.mem_append_right _ this
theorem qnO {t : Nat} {ms : Moves} (h : qet t ms = true) : t < giv := by
  unfold qet at h
  rw [Bool.and_eq_true, decide_eq_true_eq] at h
  exact h.1
theorem qnP {t : Nat} {ms : Moves} (h : qet t ms = true) {s : Nat} {p : Nat × Nat} (hm : (s, p) ∈ ms) : s ≠ t ∧ ms.at s = some p := by
  unfold qet at h
  rw [Bool.and_eq_true] at h
  have := List.all_eq_true.1 h.2 _ hm
  simp only [Bool.and_eq_true, decide_eq_true_eq] at this
  refine ⟨this.1, ?_⟩
  have h2 := this.2
  split at h2
  · rename_i p' e
    simp only [Bool.and_eq_true, beq_iff_eq] at h2
    rw [e]
    congr 1
    exact Prod.ext h2.1 h2.2
  · cases h2
def qe3 (P : Program) (st : St) (d : Nat) (t : TypeId) (len : Nat) (parts : List (Nat × Operand)) (ans : List Ans) : Stepped :=
  match P.underlying t with
  | some (.slice e) =>
    match P.info? e with
    | some i =>
      match i.zero with
      | some z =>
        if i.size = z.cells.size ∧ 0 < i.size ∧ len * i.size ≤ 16777216 then
          match fillL (fun x => some (x * i.size, i.size)) ((List.replicate len (z.cells.toList.map Leaf.v)).flatten) (parts.map fun x => (x.1, st.ev x.2)) with
          | some r =>
            let ls := qbs i.size len r
            match ls.mapM (fun x => x.mapM Leaf.toD) with
            | some es => if qet d (qb6 0 ls) then
                some (⟨(st.newTok d (qb6 0 ls)).env.set d (.one (.sl (.own d) i.size es)), (st.newTok d (qb6 0 ls)).boxes⟩, ans, []) else none
            | none => none
          | none => none
        else none
      | none => none
    | none => none
  | _ => none
def bsOf (P : Program) (st : St) (d : Nat) (t : TypeId) (len : Nat) (parts : List (Nat × Operand)) : Option (Nat × List (List D) × Moves) :=
  match P.underlying t with
  | some (.slice e) =>
    match P.info? e with
    | some i =>
      match i.zero with
      | some z =>
        if i.size = z.cells.size ∧ 0 < i.size ∧ len * i.size ≤ 16777216 then
          match fillL (fun x => some (x * i.size, i.size)) ((List.replicate len (z.cells.toList.map Leaf.v)).flatten) (parts.map fun x => (x.1, st.ev x.2)) with
          | some r =>
            match (qbs i.size len r).mapM (fun x => x.mapM Leaf.toD) with
            | some es => if qet d (qb6 0 (qbs i.size len r)) then some (i.size, es, qb6 0 (qbs i.size len r)) else none
            | none => none
          | none => none
        else none
      | none => none
    | none => none
  | _ => none
theorem qnQ {P : Program} {st : St} {d : Nat} {t : TypeId} {len : Nat} {parts : List (Nat × Operand)} {k : Nat} {es : List (List D)} {ms : Moves} (h : bsOf P st d t len parts = some (k, es, ms)) (ans : List Ans) :
    qe3 P st d t len parts ans = some (⟨(st.newTok d ms).env.set d (.one (.sl (.own d) k es)), (st.newTok d ms).boxes⟩, ans, []) := by
  unfold bsOf at h
  unfold qe3
  split at h
  · rename_i e h1
    try rw [h1]
    split at h
    · rename_i i h2
      try simp only [h2]
      split at h
      · rename_i z h3
        try simp only [h3]
        split at h
        · rename_i hc
          try rw [if_pos hc]
          split at h
          · rename_i r h4
            try simp only [h4]
            split at h
            · rename_i es' h5
              try simp only [h5]
              split at h
              · rename_i h6
                simp only [Option.some.injEq, Prod.mk.injEq] at h
                obtain ⟨rfl, rfl, rfl⟩ := h
                try rw [if_pos h6]
              · cases h
            · cases h
          · cases h
        · cases h
      · cases h
    · cases h
  · cases h
theorem qbW {α β : Type} {f : α → Option β} : ∀ {xs : List α} {ys : List β}, xs.mapM f = some ys → ys.length = xs.length ∧ ∀ (i : Nat) (y : β), ys[i]? = some y → ∃ x, xs[i]? = some x ∧ f x = some y
  | [], ys, h => by simp at h; subst h; exact ⟨rfl, fun i y hy => by simp at hy⟩
  | x :: xs, ys, h => by
    rw [List.mapM_cons] at h
    cases e : f x with
    | none => simp [e] at h
    | some y0 =>
      cases e2 : xs.mapM f with
      | none => simp [e, e2] at h
      | some ys0 =>
        simp [e, e2] at h
        subst h
        obtain ⟨h1, h2⟩ := qbW e2
        refine ⟨by simp [h1], fun i y hy => ?_⟩
        cases i with
        | zero => simp at hy; subst hy; exact ⟨x, rfl, e⟩
        | succ i => exact h2 i y (by simpa using hy)
theorem qkf {α : Type} (e : List α) : ∀ (n i j : Nat), i < n → j < e.length → ((List.replicate n e).flatten)[i * e.length + j]? = e[j]?
  | 0, i, j, hi, _ => by omega
  | n + 1, 0, j, _, hj => by
    rw [List.replicate_succ, List.flatten_cons, List.getElem?_append, Nat.zero_mul, Nat.zero_add, if_pos hj]
  | n + 1, i + 1, j, hi, hj => by
    rw [List.replicate_succ, List.flatten_cons, List.getElem?_append, if_neg (by rw [Nat.add_mul]; omega)]
    have := qkf e n i j (by omega) hj
    rw [← this]
    congr 1
    rw [Nat.add_mul]; omega
theorem RelAt.buildSlice {P : Program} {w0 : Base} {st st' : St} {a : Act} {w : World} {ω : Own} {τ : Nat → Nat × Value} {d : Nat} {t : TypeId} {len : Nat} {parts : Array (Nat × Operand)} {ans ans' : List Ans} {obs : List Prop}
    (hrel : RelAt w0 st a w ω τ) (h : qe3 P st d t len parts.toList ans = some (st', ans', obs)) :
    ∃ z w', (Instr.buildSlice t len (parts.map fun (i, x) => (i, a.eval x))).run P w = .ok z w' ∧ Rel w0 st' (a.put (some d) z) w' := by
  unfold qe3 at h
  split at h
  · rename_i e hu
    split at h
    · rename_i i hi
      split at h
      · rename_i z hz
        split at h
        · rename_i hc
          obtain ⟨hc1, hc2, hc3⟩ := hc
          split at h
          · rename_i r hr
            simp only at h
            split at h
            · rename_i es hes
              split at h
              · rename_i hmok
                simp only [Option.some.injEq, Prod.mk.injEq] at h
                obtain ⟨rfl, _, _⟩ := h
                have hzl : (z.cells.toList.map Leaf.v).length = i.size := by simp [hc1]
                have hflen : ((List.replicate len (z.cells.toList.map Leaf.v)).flatten).length = len * i.size := by simp [hc1]
                have hzs : SatL (Sat w ω τ) ((List.replicate len (z.cells.toList.map Leaf.v)).flatten) (madeCells z.cells (len * i.size)) := by
                  refine ⟨by simp [madeCells, hc1], fun x l hl => ?_⟩
                  have hlt : x < len * i.size := by
                    have := (List.getElem?_eq_some_iff.1 hl).1
                    omega
                  have hx : x = (x / i.size) * i.size + x % i.size := by rw [Nat.mul_comm]; exact (Nat.div_add_mod x i.size).symm
                  have hq : x / i.size < len := Nat.div_lt_of_lt_mul (by rw [Nat.mul_comm]; exact hlt)
                  have hm : x % i.size < i.size := Nat.mod_lt _ hc2
                  have h1 := qkf (z.cells.toList.map Leaf.v) len (x / i.size) (x % i.size) hq (by omega)
                  rw [hzl, ← hx, hl] at h1
                  have h2 := h1.symm
                  rw [List.getElem?_map, Option.map_eq_some_iff] at h2
                  obtain ⟨u, hu', rfl⟩ := h2
                  refine ⟨u, ?_, rfl⟩
                  have h3 := qkc z.cells len (x / i.size) (x % i.size) hq (by omega)
                  rw [← hc1, ← hx] at h3
                  rw [h3]
                  simpa using hu'
                obtain ⟨out, hout, hosat⟩ := qhj (vals := parts.toList.map fun x => (x.1, a.eval x.2)) (by simp) (fun j i' p hj => by
                  rw [List.getElem?_map, Option.map_eq_some_iff] at hj
                  obtain ⟨⟨i2, x⟩, hx, e⟩ := hj
                  simp only [Prod.mk.injEq] at e
                  obtain ⟨rfl, rfl⟩ := e
                  exact ⟨a.eval x, by simp only [List.getElem?_map, hx, Option.map_some], hrel.ev x⟩) hr hzs
                obtain ⟨hl1, hl2⟩ := qbW hes
                have hlen : es.length = len := by rw [hl1, qkd]
                have hcellr : ∀ x j dd, qao es x j = some dd → ∃ l, x < len ∧ j < i.size ∧ r[x * i.size + j]? = some l ∧ l.toD = some dd ∧ ∃ ee, (qbs i.size len r)[x]? = some ee ∧ ee[j]? = some l := by
                  intro x j dd hd
                  unfold qao at hd
                  cases hx : es[x]? with
                  | none => simp [hx] at hd
                  | some e' =>
                    rw [hx, Option.bind_some] at hd
                    obtain ⟨ee, h1, h2⟩ := hl2 x e' hx
                    obtain ⟨h3, h4⟩ := qbW h2
                    obtain ⟨l, h5, h6⟩ := h4 j dd hd
                    have h1' := h1
                    rw [qhB] at h1
                    split at h1
                    · simp only [Option.some.injEq] at h1
                      subst h1
                      have h5' := h5
                      rw [List.getElem?_take] at h5
                      split at h5
                      · rw [List.getElem?_drop] at h5
                        exact ⟨l, ‹_›, ‹_›, h5, h6, _, h1', h5'⟩
                      · cases h5
                    · cases h1
                have hrl : r.length = len * i.size := by
                  have := hosat.1
                  have h2 : out.size = (madeCells z.cells (len * i.size)).size := by
                    have := hosat.1
                    have h4 : ∀ (l0 : List (Nat × PV)) (ls0 r0 : List Leaf), fillL (fun x => some (x * i.size, i.size)) ls0 l0 = some r0 → r0.length = ls0.length := by
                      intro l0
                      induction l0 with
                      | nil => intro ls0 r0 h; simp [fillL] at h; rw [h]
                      | cons x l0 ih =>
                        intro ls0 r0 h
                        obtain ⟨x1, x2⟩ := x
                        simp only [fillL] at h
                        split at h
                        · split at h
                          · rename_i hh
                            rw [ih _ _ h, qhi (by omega)]
                          · cases h
                        · cases h
                    have := h4 _ _ _ hr
                    simp [madeCells]
                    omega
                  simp [madeCells] at h2
                  omega
                have hnew : (w.alloc (.cells out e)).heap[w.heap.size]? = some (.cells out e (0, 0)) := qbH _ _
                have hN := hrel.newTok d (qnO hmok) (qb6 0 (qbs i.size len r)) (k := i.size) (cap := len) (es := es) (w1 := w.alloc (.cells out e))
                  ((Blw.refl _ _).alloc (Nat.le_refl _) _) hnew (by omega) (by rw [hosat.1, hrl]; exact Nat.le_refl _)
                  (fun e' he => by
                    obtain ⟨x, hx⟩ := List.mem_iff_getElem?.1 he
                    obtain ⟨ee, h1, h2⟩ := hl2 x e' hx
                    obtain ⟨h3, _⟩ := qbW h2
                    rw [h3]
                    rw [qhB] at h1
                    split at h1
                    · simp only [Option.some.injEq] at h1
                      subst h1
                      have : (x + 1) * i.size ≤ len * i.size := Nat.mul_le_mul_right _ (by omega)
                      rw [Nat.add_mul] at this
                      simp; omega
                    · cases h1)
                  (fun x j dd hd => by
                    obtain ⟨l, h1, h2, h3, h4, ee, h5, h6⟩ := hcellr x j dd hd
                    obtain ⟨u, h7, h8⟩ := hosat.2 _ _ h3
                    refine ⟨u, h7, l, h4, h8, fun s hs => ?_⟩
                    have := qke (qbs i.size len r) 0 x j ee l s h5 h6 hs
                    rw [Nat.zero_add] at this
                    exact qnP hmok this)
                rw [hlen] at hN
                refine ⟨_, _, ?_, _, _, hN.1.put (p := .one (.sl (.own d) i.size es)) hN.2⟩
                have hz0 : ((Array.range (len * i.size)).map (fun x => (if len * i.size = 0 then (#[] : Array Value) else z.cells)[x % (if len * i.size = 0 then (#[] : Array Value) else z.cells).size]!)) = madeCells z.cells (len * i.size) := by
                  unfold madeCells
                  by_cases h0 : len * i.size = 0
                  · simp [h0]
                  · simp [h0]
                have e : (Array.map (fun (x : Nat × Operand) => (x.1, a.eval x.2)) parts).toList = parts.toList.map fun x => (x.1, a.eval x.2) := by simp
                have hlim : ¬ (len * i.size > 2 ^ 24) := by have : (2 : Nat) ^ 24 = 16777216 := by decide
                                                            omega
                simp only [Instr.buildSlice, Sem.run_bind, run_underlying hu, Result.andThen_ok, sizeOf, typeInfo, run_program, hi, Sem.run_pure]
                rw [if_neg hlim]
                by_cases h0 : len * i.size = 0
                · simp only [h0, if_true] at hz0 ⊢
                  simp only [Sem.run_pure, Sem.run_bind, Result.andThen_ok, e]
                  rw [h0] at hout
                  rw [hz0, hout]
                  simp [newRow]
                · simp only [h0, if_false] at hz0 ⊢
                  simp only [zeroValue, typeInfo, Sem.run_bind, run_program, Result.andThen_ok, hi, hz, Sem.run_pure, e]
                  rw [hz0, hout]
                  simp [newRow]
              · cases h
            · cases h
          · cases h
        · cases h
      · cases h
    · cases h
  · cases h
end Go.Sx
