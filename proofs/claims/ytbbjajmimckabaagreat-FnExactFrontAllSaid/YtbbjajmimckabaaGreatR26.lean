/- A pointer to new memory whose variable is laid later; a cut of a tree of the call's own that takes its place. -/
import Derived.Test.YtbbjajmimckabaaGreatR25
set_option linter.unusedVariables false
set_option linter.unusedSimpArgs false
namespace Go.Sx
open Go.RowKit

/-! ### alloc, where the order is drawn -/
def stepNp (P : Program) (st : St) (d : Nat) (elem : TypeId) (r : List Ans) : Stepped :=
  match P.info? elem with
  | some i => match i.zero with
    | some z => if d < giv then some (⟨(st.newTok d []).env.set d (.one (.np d (z.cells.toList.map .v))), (st.newTok d []).boxes⟩, r, []) else none
    | none => none
  | none => none

theorem RelAt.allocNp {P : Program} {w0 : Base} {st st' : St} {a : Act} {w : World} {ω : Own} {τ : Nat → Nat × Value} {d : Nat} {elem : TypeId} {ans ans' : List Ans} {obs : List Prop} (hrel : RelAt w0 st a w ω τ)
    (h : stepNp P st d elem ans = some (st', ans', obs)) :
    ∃ z w', (Instr.alloc elem true (.tuple #[])).run P w = .ok z w' ∧ Rel w0 st' (a.put (some d) z) w' := by
  unfold stepNp at h
  split at h
  · rename_i i hi
    split at h
    · rename_i z hz
      split at h
      · rename_i hd
        simp only [Option.some.injEq, Prod.mk.injEq] at h
        obtain ⟨rfl, _, _⟩ := h
        have h1 := hrel.newTok d hd [] (k := 0) (cap := 0) (es := []) (arr := z.cells) (ty := elem) ((Blw.refl _ _).alloc (Nat.le_refl _) (.cells z.cells elem)) (heap_alloc_new' _ _) (Nat.le_refl _) (by simp) (by simp)
          (by intro i j dd hc; simp [cellAt] at hc)
        refine ⟨.pointer (some ⟨w.heap.size, 0, none⟩), w.alloc (.cells z.cells elem), by simp [Instr.alloc, zeroValue, typeInfo, hi, hz, newVar, newRow], _, _, h1.1.put (p := .one (.np d (z.cells.toList.map .v))) ?_⟩
        refine ⟨w.heap.size, elem, z.cells, rfl, by simp [newOwn], heap_alloc_new' _ _, by simp, fun j c hc => ?_⟩
        rw [List.getElem?_map, Option.map_eq_some_iff] at hc
        obtain ⟨u, hu, rfl⟩ := hc
        exact ⟨u, by simpa using hu, rfl⟩
      · cases h
    · cases h
  · cases h

def dropT (t : Nat) : Tag → Option Tag
  | .free => some .free
  | .own s => if s = t then none else some (.own s)
  | .ro s => if s = t then none else some (.ro s)

theorem dropT_R {t : Nat} {g g' : Tag} {q : List (Nat × Nat)} {o : Owner} (h : dropT t g = some g') (hr : g.R q o) : g' = g ∧ ∀ q', o ≠ .tok t q' := by
  cases g with
  | free => simp only [dropT, Option.some.injEq] at h; subst h; simp only [Tag.R] at hr; subst hr; exact ⟨rfl, fun q' e => by cases e⟩
  | own s =>
    simp only [dropT] at h
    split at h
    · cases h
    · rename_i hs
      simp only [Option.some.injEq] at h; subst h
      simp only [Tag.R] at hr; subst hr
      exact ⟨rfl, fun q' e => by simp only [Owner.tok.injEq] at e; exact hs e.1⟩
  | ro s =>
    simp only [dropT] at h
    split at h
    · cases h
    · rename_i hs
      simp only [Option.some.injEq] at h; subst h
      simp only [Tag.R] at hr
      refine ⟨rfl, fun q' e => ?_⟩
      subst e
      rcases hr with hr | ⟨q2, hr⟩
      · cases hr
      · simp only [Owner.tok.injEq] at hr; exact hs hr.1.symm

theorem put_self {a : Act} {s : Nat} {x : Value} (this : a.tmps[s]? = some x) : a.put (some s) x = a := by
  simp only [Act.put]
  have : a.tmps.setIfInBounds s x = a.tmps := by
    apply Array.ext
    · simp
    · intro i h1 h2
      rw [Array.getElem_setIfInBounds]
      split
      · rename_i hi
        subst hi
        rw [Array.getElem?_eq_getElem h2] at this
        exact (Option.some.inj this).symm
      · rfl
  rw [this]

/-- The cells of a value, for a new variable. -/
def Leaf.nc : Leaf → NC
  | .v x => .v x
  | .sb c => .v (.bool c)
  | .sl t k es => .sl t k es
  | _ => .und

def ncs (p : PV) : Option (List NC) := p.leaves.map (·.map Leaf.nc)

theorem Leaf.nc_sat {w : World} {ω : Own} {τ : Nat → Nat × Value} {l : Leaf} {y : Value} (h : Sat w ω τ l y) : NCSat w ω τ l.nc y := by
  cases l <;> first | exact h | exact trivial

def NC.leaf : NC → Leaf
  | .und => .und
  | .v x => .v x
  | .sl t k es => .sl t k es

theorem NC.leaf_sat {w : World} {ω : Own} {τ : Nat → Nat × Value} {c : NC} {y : Value} (h : NCSat w ω τ c y) : Sat w ω τ c.leaf y := by
  cases c <;> exact h

/-- A store into such a variable. -/
def stepStoreNp (P : Program) (st : St) (ty : TypeId) (s : Nat) (q : PV) (ans : List Ans) : Stepped :=
  match (st.env.getD s .und).leaf, ncs q, P.info? ty with
  | some (.np t vs), some cs, some i =>
    if cs.length = i.size ∧ cs.length ≤ vs.length then
      let st2 := st.map (Leaf.re (dropT t) fun _ => true)
      some (⟨st2.env.set s (.one (.np t ((cs ++ vs.drop cs.length).map (NC.re (dropT t))))), st2.boxes⟩, ans, [])
    else none
  | _, _, _ => none

theorem RelAt.storeNp {P : Program} {w0 : Base} {st st' : St} {a : Act} {w : World} {ω : Own} {τ : Nat → Nat × Value} {ty : TypeId} {s : Nat} {q : PV} {v : Value} {ans ans' : List Ans} {obs : List Prop}
    (hrel : RelAt w0 st a w ω τ) (hq : SatP (Sat w ω τ) q v) (h : stepStoreNp P st ty s q ans = some (st', ans', obs)) :
    ∃ w', (Instr.storeAt ty (a.eval (.tmp s)) v).run P w = .ok () w' ∧ Rel w0 st' a w' := by
  unfold stepStoreNp at h
  split at h
  · rename_i t vs cs i e1 e2 e3
    split at h
    · rename_i hc
      obtain ⟨c1, c2⟩ := hc
      simp only [Option.some.injEq, Prod.mk.injEq] at h
      obtain ⟨rfl, _, _⟩ := h
      unfold ncs at e2
      rw [Option.map_eq_some_iff] at e2
      obtain ⟨ls, e2, rfl⟩ := e2
      obtain ⟨hls, hone⟩ := PV.leaves_sat e2 hq
      have hsz : v.cells.size = ls.length := hls.1
      rw [List.length_map] at c1 c2
      have hget : st.env[s]? = some (.one (.np t vs)) := by
        rw [List.getD_eq_getElem?_getD] at e1
        cases e : st.env[s]? with
        | none => rw [e] at e1; simp [PV.leaf] at e1
        | some p =>
          rw [e] at e1
          simp only [Option.getD_some] at e1
          cases p with
          | tup as => cases e1
          | al x =>
            cases x with
            | agg ls => cases e1
            | one l => simp only [PV.leaf, Option.some.injEq] at e1; rw [e1]
      obtain ⟨y, hy, hsat⟩ := hrel.env s _ hget
      obtain ⟨b, tyb, arr, rfl, hb, hhb, hvn, hvs⟩ := hsat
      have hev : a.eval (.tmp s) = ptrTo b := by simp [Act.eval, Array.getD_eq_getD_getElem?, hy]
      have hst := run_storeCells_at P b 0 tyb v.cells.toList 0 arr w hhb (by simp; omega) hone
      obtain ⟨arr', harr⟩ : ∃ arr', arr' = (arr.toList.take (0 + 0) ++ v.cells.toList ++ arr.toList.drop (0 + 0 + v.cells.toList.length)).toArray := ⟨_, rfl⟩
      rw [← harr] at hst
      have harr2 : arr' = (v.cells.toList ++ arr.toList.drop v.cells.size).toArray := by rw [harr]; simp
      refine ⟨w.setRow b arr', ?_, ?_⟩
      · rw [hev]
        simp only [ptrTo, Instr.storeAt, Instr.sureAddr, Sem.run_bind, Sem.run_pure, Result.andThen_ok, storeVar, sizeOf, typeInfo, run_program, e3]
        rw [if_neg (by simp; omega)]
        exact hst
      · have hhs := setRow_heap w b arr arr' tyb (0, 0) hhb
        have ev : Evolve w ω τ (w.setRow b arr') ω τ (dropT t) (fun _ => true) := by
          refine ⟨?_, ?_, fun id c _ hc => hc, rfl⟩
          · intro g g' c q hg _ hq
            obtain ⟨rfl, hnt⟩ := dropT_R hg hq
            exact ⟨hq, setRow_other w b c _ fun e => hnt [] (by rw [e]; exact hb)⟩
          · intro g g' y hg hy
            cases g with
            | free => simp only [dropT, Option.some.injEq] at hg; subst hg; trivial
            | own x =>
              simp only [dropT] at hg
              split at hg
              · cases hg
              · simp only [Option.some.injEq] at hg; subst hg; exact hy
            | ro x =>
              simp only [dropT] at hg
              split at hg
              · cases hg
              · simp only [Option.some.injEq] at hg; subst hg; trivial
        have h1 : RelAt w0 (st.map (Leaf.re (dropT t) fun _ => true)) a (w.setRow b arr') ω τ := by
          refine hrel.turn _ ev.sat (hrel.below.setRow (hrel.owned b (by rw [hb]; simp)).1 _) ?_ (fun id c hc => ⟨hc, setRow_other w b c _ fun e => by rw [e, hb] at hc; cases hc⟩) (fun id c hc => hc) (fun _ _ => rfl)
          intro c hc
          obtain ⟨h1, arr2, ty2, h2⟩ := hrel.owned c hc
          by_cases e : c = b
          · subst e; exact ⟨h1, _, tyb, hhs⟩
          · exact ⟨h1, arr2, ty2, (setRow_other w b c _ e).trans h2⟩
        have hcells : arr'.size = (ls.map Leaf.nc ++ vs.drop (ls.map Leaf.nc).length).length ∧ ∀ (j : Nat) (c : NC), (ls.map Leaf.nc ++ vs.drop (ls.map Leaf.nc).length)[j]? = some c → ∃ u, arr'[j]? = some u ∧ NCSat w ω τ c u := by
          refine ⟨by rw [harr2]; simp; omega, fun j c hc => ?_⟩
          rw [harr2, List.getElem?_toArray]
          by_cases hj : j < ls.length
          · rw [List.getElem?_append_left (by simpa using hj), List.getElem?_map, Option.map_eq_some_iff] at hc
            obtain ⟨l, hl, rfl⟩ := hc
            obtain ⟨u, hu1, hu2⟩ := hls.2 j l hl
            exact ⟨u, by rw [List.getElem?_append_left (by simp; omega)]; simpa using hu1, Leaf.nc_sat hu2⟩
          · rw [List.getElem?_append_right (by simpa using hj), List.length_map, List.getElem?_drop] at hc
            obtain ⟨u, hu1, hu2⟩ := hvs _ c hc
            refine ⟨u, ?_, hu2⟩
            rw [List.getElem?_append_right (by simp; omega), List.getElem?_drop, Array.getElem?_toList, ← hu1]
            congr 1
            simp only [Array.length_toList]
            omega
        have hput := nc_map ev.nc hcells.1 hcells.2
        have h2 := h1.put (d := s) (p := .one (.np t ((ls.map Leaf.nc ++ vs.drop (ls.map Leaf.nc).length).map (NC.re (dropT t))))) (v := ptrTo b) ⟨b, tyb, arr', rfl, hb, hhs, hput⟩
        rw [put_self hy] at h2
        exact ⟨ω, τ, h2⟩
    · cases h
  · cases h

/-- The variable of such a pointer. -/
def npBox (st : St) (d : Nat) : Option St :=
  match st.env.getD d .und with
  | .al (.one (.np t vs)) =>
    some ⟨(st.env.map (PV.map (Leaf.re (dropT t) (butBox d)))).set d (.one (.ptr d 0)), (d, vs.map fun c => Leaf.re (dropT t) (butBox d) c.leaf) :: (eraseBox d st.boxes).map fun x => (x.1, x.2.map (Leaf.re (dropT t) (butBox d)))⟩
  | _ => none

theorem npBox_ok {w0 : Base} {st st' : St} {a : Act} {w : World} {d : Nat} (h : Rel w0 st a w) (hn : npBox st d = some st') : Rel w0 st' a w := by
  obtain ⟨ω, τ, h⟩ := h
  unfold npBox at hn
  split at hn
  · rename_i t vs he
    simp only [Option.some.injEq] at hn
    subst hn
    have hget : st.env[d]? = some (.one (.np t vs)) := by
      rw [List.getD_eq_getElem?_getD] at he
      cases e : st.env[d]? with
      | none => rw [e] at he; cases he
      | some p => rw [e] at he; simp only [Option.getD_some] at he; rw [he]
    obtain ⟨v, hv1, hv2⟩ := h.env d _ hget
    obtain ⟨b, ty, arr, rfl, hb, hhb, hvn, hvs⟩ := hv2
    let ω' : Own := fun c => if c = b then .box d else match ω c with | .box i => if i = d then .imm else .box i | o => o
    have hself : ω' b = .box d := by simp [ω']
    have hother : ∀ c, c ≠ b → ω' c = (match ω c with | .box i => if i = d then .imm else .box i | o => o) := by
      intro c hc
      simp only [ω']
      rw [if_neg hc]
    have ev : Evolve w ω τ w ω' τ (dropT t) (butBox d) := by
      refine ⟨?_, ?_, ?_, rfl⟩
      · intro g g' c q hg _ hq
        obtain ⟨rfl, hnt⟩ := dropT_R hg hq
        have hcb : c ≠ b := fun e => hnt [] (by rw [e]; exact hb)
        refine ⟨?_, rfl⟩
        rw [hother c hcb]
        cases g' with
        | free => simp only [Tag.R] at hq ⊢; rw [hq]
        | own s => simp only [Tag.R] at hq ⊢; rw [hq]
        | ro s =>
          simp only [Tag.R] at hq ⊢
          rcases hq with hq | ⟨q', hq⟩
          · rw [hq]; exact .inl rfl
          · rw [hq]; exact .inr ⟨q', rfl⟩
      · intro g g' y hg hy
        cases g with
        | free => simp only [dropT, Option.some.injEq] at hg; subst hg; trivial
        | own s =>
          simp only [dropT] at hg
          split at hg
          · cases hg
          · simp only [Option.some.injEq] at hg; subst hg; exact hy
        | ro s =>
          simp only [dropT] at hg
          split at hg
          · cases hg
          · simp only [Option.some.injEq] at hg; subst hg; trivial
      · intro i c hp hc
        have hcb : c ≠ b := fun e => by rw [e, hb] at hc; cases hc
        rw [hother c hcb, hc]
        simp only [butBox, decide_eq_true_eq] at hp
        simp [hp]
    have howned : Owned w0 w ω' := by
      intro c hc
      by_cases e : c = b
      · subst e; exact h.owned c (by rw [hb]; simp)
      · rw [hother c e] at hc
        exact h.owned c (fun e' => by rw [e'] at hc; exact hc rfl)
    have key := h.evolve (bs := (d, vs.map fun c => Leaf.re (dropT t) (butBox d) c.leaf) :: (eraseBox d st.boxes).map fun x => (x.1, x.2.map (Leaf.re (dropT t) (butBox d)))) ev h.below howned ?_
    · have := key.put (d := d) (p := .one (.ptr d 0)) (v := ptrTo b) ⟨b, hself, rfl⟩
      rw [put_self hv1] at this
      exact ⟨ω', τ, this⟩
    · intro i ls' hl
      simp only [getBox] at hl
      split at hl
      · rename_i hi
        subst hi
        have e := Option.some.inj hl
        subst e
        refine ⟨b, arr, ty, hself, ?_, hhb, by simpa using hvn, fun j l hj => ?_⟩
        · intro b' hb'
          by_cases hn : b' = b
          · exact hn
          · rw [hother b' hn] at hb'
            cases e : ω b' with
            | imm => simp [e] at hb'
            | tok t q => simp [e] at hb'
            | box j =>
              simp only [e] at hb'
              split at hb'
              · cases hb'
              · rename_i hne; simp only [Owner.box.injEq] at hb'; exact absurd hb' hne
        · rw [List.getElem?_map, Option.map_eq_some_iff] at hj
          obtain ⟨c, hc, rfl⟩ := hj
          obtain ⟨u, hu1, hu2⟩ := hvs j c hc
          exact ⟨u, hu1, ev.sat _ _ (NC.leaf_sat hu2)⟩
      · rename_i hi
        rw [getBox_map, Option.map_eq_some_iff] at hl
        obtain ⟨ls0, h0, rfl⟩ := hl
        have hne : i ≠ d := fun e => hi e.symm
        rw [getBox_erase_ne hne] at h0
        obtain ⟨c, arr', ty', hc, hu, hh, hsat⟩ := h.boxes i ls0 h0
        refine ⟨c, arr', ty', ev.box i c (by simp [butBox, hne]) hc, ?_, hh, hsat.map ev.sat⟩
        intro b' hb'
        by_cases hn : b' = b
        · subst hn; rw [hself] at hb'; simp only [Owner.box.injEq] at hb'; exact absurd hb'.symm hne
        · rw [hother b' hn] at hb'
          refine hu b' ?_
          cases e : ω b' with
          | imm => simp [e] at hb'
          | tok t q => simp [e] at hb'
          | box j =>
            simp only [e] at hb'
            split at hb'
            · cases hb'
            · exact hb'
  · cases hn

def npBoxes : List Nat → St → Option St
  | [], st => some st
  | d :: ds, st => (npBox st d).bind (npBoxes ds)

theorem npBoxes_ok {w0 : Base} {a : Act} {w : World} : ∀ {ds : List Nat} {st st' : St}, Rel w0 st a w → npBoxes ds st = some st' → Rel w0 st' a w
  | [], st, st', h, hn => by simp only [npBoxes, Option.some.injEq] at hn; subst hn; exact h
  | d :: ds, st, st', h, hn => by
    simp only [npBoxes, Option.bind_eq_some_iff] at hn
    obtain ⟨st1, h1, h2⟩ := hn
    exact npBoxes_ok (npBox_ok h h1) h2

/-! ### A cut that takes the tree's place -/
/-- Token 's' goes over into 'n'; what 'n' was is gone. -/
def cutTag (s n : Nat) : Tag → Option Tag
  | .own x => if x = s then some (.ro n) else if x = n then none else some (.own x)
  | .ro x => if x = s then some (.ro n) else if x = n then none else some (.ro x)
  | .free => some .free

def cutOwner (s n l : Nat) : Owner → Owner
  | .tok x q => if x = s then (match q with | [] => .tok n [] | (i, j) :: r => if i < l then .imm else .tok n ((i - l, j) :: r)) else if x = n then .imm else .tok x q
  | o => o

theorem cutOwner_ne {s n l : Nat} {o : Owner} (h : cutOwner s n l o ≠ .imm) : o ≠ .imm := by rintro rfl; exact h rfl
theorem cutOwner_box {s n l : Nat} {o : Owner} {id : Nat} : cutOwner s n l o = .box id ↔ o = .box id := by
  cases o with
  | imm => simp [cutOwner]
  | box i => simp [cutOwner]
  | tok x q =>
    simp only [cutOwner]
    split
    · split
      · simp
      · split <;> simp
    · split <;> simp

theorem cutOwner_ro {s n l : Nat} {q : List (Nat × Nat)} : cutOwner s n l (.tok s q) = .imm ∨ ∃ q', cutOwner s n l (.tok s q) = .tok n q' := by
  simp only [cutOwner, if_true]
  split
  · exact .inr ⟨_, rfl⟩
  · split
    · exact .inl rfl
    · exact .inr ⟨_, rfl⟩

theorem cut_evolve {w : World} {ω : Own} {τ : Nat → Nat × Value} {s n l k : Nat} {z : Value} : Evolve w ω τ w (fun b => cutOwner s n l (ω b)) (setHdr τ n k z) (cutTag s n) (fun _ => true) := by
  refine ⟨?_, ?_, ?_, rfl⟩
  · intro g g' b q hg _ hq
    refine ⟨?_, rfl⟩
    cases g with
    | free => simp only [cutTag, Option.some.injEq] at hg; subst hg; simp only [Tag.R] at hq ⊢; rw [hq]; rfl
    | own x =>
      simp only [cutTag] at hg
      simp only [Tag.R] at hq
      split at hg
      · rename_i hs
        simp only [Option.some.injEq] at hg; subst hg; subst hs
        simp only [Tag.R, hq]
        exact cutOwner_ro
      · rename_i hs
        split at hg
        · cases hg
        · rename_i hn
          simp only [Option.some.injEq] at hg; subst hg
          simp only [Tag.R, hq, cutOwner, if_neg hs, if_neg hn]
    | ro x =>
      simp only [cutTag] at hg
      simp only [Tag.R] at hq
      split at hg
      · rename_i hs
        simp only [Option.some.injEq] at hg; subst hg; subst hs
        rcases hq with hq | ⟨q', hq⟩
        · rw [hq]; exact .inl rfl
        · rw [hq]; exact cutOwner_ro
      · rename_i hs
        split at hg
        · cases hg
        · rename_i hn
          simp only [Option.some.injEq] at hg; subst hg
          rcases hq with hq | ⟨q', hq⟩
          · rw [hq]; exact .inl rfl
          · rw [hq]; simp only [cutOwner, if_neg hs, if_neg hn]; exact .inr ⟨q', rfl⟩
  · intro g g' y hg hy
    cases g with
    | free => simp only [cutTag, Option.some.injEq] at hg; subst hg; trivial
    | own x =>
      simp only [cutTag] at hg
      split at hg
      · simp only [Option.some.injEq] at hg; subst hg; trivial
      · rename_i hs
        split at hg
        · cases hg
        · rename_i hn
          simp only [Option.some.injEq] at hg; subst hg
          simp only [Tag.hdr, setHdr, if_neg hn] at hy ⊢
          exact hy
    | ro x =>
      simp only [cutTag] at hg
      split at hg
      · simp only [Option.some.injEq] at hg; subst hg; trivial
      · split at hg
        · cases hg
        · simp only [Option.some.injEq] at hg; subst hg; trivial
  · intro id b _ hb
    exact cutOwner_box.2 hb

/-- The token of the cut: the tree's own, or, of what was handed over, the slot's. -/
def cutTok (s d : Nat) : Nat := if s < giv then s else d

def stepCut (P : Program) (st : St) (d : Nat) (t : TypeId) (p : PV) (lo hi mx : Option Operand) (ans : List Ans) : Stepped :=
  match elemOf P t, p.leaf, mx with
  | some (_, k), some (.sl (.own s) k' es), none =>
    if k = k' ∧ cutTok s d < giv then
      match optInt st lo, optInt st hi with
      | some l, some h =>
        let st2 := st.map (Leaf.re (cutTag s (cutTok s d)) fun _ => true)
        some (⟨st2.env.set d (.one (.sl (.own (cutTok s d)) k ((es.drop (l.getD 0).toNat).take ((h.getD es.length).toNat - (l.getD 0).toNat)))), st2.boxes⟩, ans, [0 ≤ l.getD 0, l.getD 0 ≤ h.getD es.length, h.getD es.length ≤ es.length])
      | _, _ => none
    else none
  | _, _, _ => none

theorem RelAt.stepCut {P : Program} {w0 : Base} {w : World} {a : Act} {st st' : St} {ω : Own} {τ : Nat → Nat × Value} {d : Nat} {t : TypeId} {p : PV} {v : Value} {lo hi mx : Option Operand} {ans ans' : List Ans} {obs : List Prop}
    (hrel : RelAt w0 st a w ω τ) (hp : SatP (Sat w ω τ) p v) (h : stepCut P st d t p lo hi mx ans = some (st', ans', obs)) (ho : Obs obs) :
    ∃ z, (Instr.sliceAt t v (lo.map a.eval) (hi.map a.eval) (mx.map a.eval)).run P w = .ok z w ∧ Rel w0 st' (a.put (some d) z) w := by
  unfold Go.Sx.stepCut at h
  split at h
  · rename_i e k s k' es e1 e2
    split at h
    · rename_i hk
      obtain ⟨rfl, hs⟩ := hk
      split at h
      · rename_i l hh e3 e4
        simp only [Option.some.injEq, Prod.mk.injEq] at h
        obtain ⟨rfl, _, rfl⟩ := h
        obtain ⟨hu, i, hi', hz⟩ := elemOf_spec e1
        obtain ⟨hr, _⟩ := PV.leaf_sat e2 hp
        obtain ⟨o1, o2, o3, _⟩ := ho
        have h3 := optInt_sat hrel e3
        have h4 := optInt_sat hrel e4
        have hl' : (lo.map a.eval = none ∧ l.getD 0 = 0) ∨ ∃ k, lo.map a.eval = some (.int k (l.getD 0)) := by
          rcases h3 with ⟨h, rfl⟩ | ⟨k, n, h, rfl⟩
          · exact .inl ⟨h, rfl⟩
          · exact .inr ⟨k, h⟩
        have hh' : (hi.map a.eval = none ∧ hh.getD es.length = es.length) ∨ ∃ k, hi.map a.eval = some (.int k (hh.getD es.length)) := by
          rcases h4 with ⟨h, rfl⟩ | ⟨k, n, h, rfl⟩
          · exact .inl ⟨h, rfl⟩
          · exact .inr ⟨k, h⟩
        -- the relation behind it
        have key : ∀ (L m : Nat) (z : Value), L ≤ m → Rep w (fun b => cutOwner s (cutTok s d) L (ω b)) (Tag.own (cutTok s d)).R (.sl k ((es.drop L).take (m - L))) z →
            Rel w0 ⟨(st.map (Leaf.re (cutTag s (cutTok s d)) fun _ => true)).env.set d (.one (.sl (.own (cutTok s d)) k ((es.drop L).take (m - L)))), (st.map (Leaf.re (cutTag s (cutTok s d)) fun _ => true)).boxes⟩ (a.put (some d) z) w := by
          intro L m z _ hrep
          have h1 : RelAt w0 (st.map (Leaf.re (cutTag s (cutTok s d)) fun _ => true)) a w (fun b => cutOwner s (cutTok s d) L (ω b)) (setHdr τ (cutTok s d) k z) :=
            hrel.turn _ cut_evolve.sat hrel.below (fun b hb => hrel.owned b (cutOwner_ne hb)) (fun id b hb => ⟨cutOwner_box.2 hb, rfl⟩) (fun id b hb => cutOwner_box.1 hb)
              (fun t ht => by simp only [setHdr]; rw [if_neg (by omega)])
          exact ⟨_, _, h1.put (p := .one (.sl (.own (cutTok s d)) k ((es.drop L).take (m - L)))) ⟨hrep, by simp [Tag.hdr, setHdr]⟩⟩
        cases hr with
        | nil _ _ a0 =>
          simp only [List.length_nil] at *
          have e0 : l.getD 0 = 0 := by omega
          have e0' : hh.getD ((0 : Nat) : Int) = 0 := by omega
          refine ⟨.slice a0 0 0, ?_, ?_⟩
          · simp only [Instr.sliceAt, Sem.run_bind, run_underlying hu, Result.andThen_ok, Instr.slice, Option.map_none]
            rw [run_sliceBounds hl' hh' o1 o2 o3]
            have e0'' : hh.getD 0 = 0 := by simpa using e0'
            simp [sizeOf, typeInfo, hi', e0, e0'']
          · refine key _ _ _ (by omega) ?_
            simp only [List.drop_nil, List.take_nil]
            exact .nil _ _ _
        | row R k es b off cap arr ty fr us hb hR hc hsz hk hu' hd =>
          refine ⟨sliced (some ⟨b, off, none⟩) (l.getD 0).toNat (hh.getD es.length).toNat cap k, ?_, ?_⟩
          · simp only [Instr.sliceAt, Sem.run_bind, run_underlying hu, Result.andThen_ok, Instr.slice, Option.map_none]
            rw [run_sliceBounds hl' hh' o1 o2 (by omega)]
            simp [sizeOf, typeInfo, hi', hz, sliced]
          · refine key _ _ _ (by omega) ?_
            have := Rep.sub (.row _ k es b off cap arr ty fr us hb hR hc hsz hk hu' hd) (l := (l.getD 0).toNat) (m := (hh.getD es.length).toNat) (by omega) (by omega)
              (R' := fun q o => match q with | [] => o = .tok s [] | (i, j) :: r => o = .tok s ((i + (l.getD 0).toNat, j) :: r)) (fun o h => h) (fun i j q o hli h => by
                simp only [Tag.R] at h
                simp only [Nat.sub_add_cancel hli]
                exact h)
            refine this.frame fun c q _ hq => ⟨?_, rfl⟩
            simp only [Tag.R]
            cases q with
            | nil => simp only at hq; rw [hq]; simp [cutOwner]
            | cons x r =>
              obtain ⟨i, j⟩ := x
              simp only at hq
              rw [hq]
              have hL : ¬ (i + (l.getD 0).toNat < (l.getD 0).toNat) := by omega
              simp only [cutOwner, if_true, if_neg hL, Nat.add_sub_cancel]
      · cases h
    · cases h
  · cases h
end Go.Sx
