/- A pointer to new memory whose variable is laid later; a cut of a tree of the call's own that takes its place. -/
import Derived.Test.YtialmplmfcahpaaGreatR19
set_option linter.unusedVariables false
set_option linter.unusedSimpArgs false
namespace Go.Sx
open Go.RowKit
def qfM (P : Program) (st : St) (d : Nat) (elem : TypeId) (r : List Ans) : Stepped :=
  match P.info? elem with
  | some i => match i.zero with
    | some z => if d < giv then some (⟨(st.newTok d []).env.set d (.one (.np d (z.cells.toList.map .v))), (st.newTok d []).boxes⟩, r, []) else none
    | none => none
  | none => none
theorem RelAt.allocNp {P : Program} {w0 : Base} {st st' : St} {a : Act} {w : World} {ω : Own} {τ : Nat → Nat × Value} {d : Nat} {elem : TypeId} {ans ans' : List Ans} {obs : List Prop} (hrel : RelAt w0 st a w ω τ)
    (h : qfM P st d elem ans = some (st', ans', obs)) :
    ∃ z w', (Instr.alloc elem true (.tuple #[])).run P w = .ok z w' ∧ Rel w0 st' (a.put (some d) z) w' := by
  unfold qfM at h
  split at h
  · rename_i i hi
    split at h
    · rename_i z hz
      split at h
      · rename_i hd
        simp only [Option.some.injEq, Prod.mk.injEq] at h
        obtain ⟨rfl, _, _⟩ := h
        have h1 := hrel.newTok d hd [] (k := 0) (cap := 0) (es := []) (arr := z.cells) (ty := elem) ((Blw.refl _ _).alloc (Nat.le_refl _) (.cells z.cells elem)) (qbH _ _) (Nat.le_refl _) (by simp) (by simp)
          (by intro i j dd hc; simp [qao] at hc)
        refine ⟨.pointer (some ⟨w.heap.size, 0, none⟩), w.alloc (.cells z.cells elem), by simp [Instr.alloc, zeroValue, typeInfo, hi, hz, newVar, newRow], _, _, h1.1.put (p := .one (.np d (z.cells.toList.map .v))) ?_⟩
        refine ⟨w.heap.size, elem, z.cells, rfl, by simp [qbL], qbH _ _, by simp, fun j c hc => ?_⟩
        rw [List.getElem?_map, Option.map_eq_some_iff] at hc
        obtain ⟨u, hu, rfl⟩ := hc
        exact ⟨u, by simpa using hu, rfl⟩
      · cases h
    · cases h
  · cases h
def dropT (t : Nat) : Tag → Option Tag
  | .free => some .free
  | .own s => if s = t then none else some (.own s)
  | .ro s => if s = t then none else some (.ro s)
theorem qhV {t : Nat} {g g' : Tag} {q : List (Nat × Nat)} {o : Owner} (h : dropT t g = some g') (hr : g.R q o) : g' = g ∧ ∀ q', o ≠ .tok t q' := by
  cases g with
  | free => simp only [dropT, Option.some.injEq] at h; subst h; simp only [Tag.R] at hr; subst hr; exact ⟨rfl, fun q' e => by cases e⟩
  | own s =>
    simp only [dropT] at h
    split at h
    · cases h
    · rename_i hs
      simp only [Option.some.injEq] at h; subst h
      simp only [Tag.R] at hr; subst hr
      exact ⟨rfl, fun q' e => by simp only [Owner.tok.injEq] at e; exact hs e.1⟩
  | ro s =>
    simp only [dropT] at h
    split at h
    · cases h
    · rename_i hs
      simp only [Option.some.injEq] at h; subst h
      simp only [Tag.R] at hr
      refine ⟨rfl, fun q' e => ?_⟩
      subst e
      rcases hr with hr | ⟨q2, hr⟩
      · cases hr
      · simp only [Owner.tok.injEq] at hr; exact hs hr.1.symm
theorem qkA {a : Act} {s : Nat} {x : Value} (this : a.tmps[s]? = some x) : a.put (some s) x = a := by
  simp only [Act.put]
  have : a.tmps.setIfInBounds s x = a.tmps := by
    apply Array.ext
    · simp
    · intro i h1 h2
      rw [Array.getElem_setIfInBounds]
      split
      · rename_i hi
        subst hi
        rw [Array.getElem?_eq_getElem h2] at this
        exact (Option.some.inj this).symm
      · rfl
  rw [this]
def Leaf.nc : Leaf → NC
  | .v x => .v x
  | .sb c => .v (.bool c)
  | .sl t k es => .sl t k es
  | _ => .und
def ncs (p : PV) : Option (List NC) := p.leaves.map (·.map Leaf.nc)
theorem Leaf.nc_sat {w : World} {ω : Own} {τ : Nat → Nat × Value} {l : Leaf} {y : Value} (h : Sat w ω τ l y) : NCSat w ω τ l.nc y := by
  cases l <;> first | exact h | exact trivial
def NC.leaf : NC → Leaf
  | .und => .und
  | .v x => .v x
  | .sl t k es => .sl t k es
theorem NC.leaf_sat {w : World} {ω : Own} {τ : Nat → Nat × Value} {c : NC} {y : Value} (h : NCSat w ω τ c y) : Sat w ω τ c.leaf y := by
  cases c <;> exact h
def qfN (P : Program) (st : St) (ty : TypeId) (s : Nat) (q : PV) (ans : List Ans) : Stepped :=
  match (st.env.getD s .und).leaf, ncs q, P.info? ty with
  | some (.np t vs), some cs, some i =>
    if cs.length = i.size ∧ cs.length ≤ vs.length then
      let st2 := st.map (Leaf.re (dropT t) fun _ => true)
      some (⟨st2.env.set s (.one (.np t ((cs ++ vs.drop cs.length).map (NC.re (dropT t))))), st2.boxes⟩, ans, [])
    else none
  | _, _, _ => none
theorem RelAt.storeNp {P : Program} {w0 : Base} {st st' : St} {a : Act} {w : World} {ω : Own} {τ : Nat → Nat × Value} {ty : TypeId} {s : Nat} {q : PV} {v : Value} {ans ans' : List Ans} {obs : List Prop}
    (hrel : RelAt w0 st a w ω τ) (hq : SatP (Sat w ω τ) q v) (h : qfN P st ty s q ans = some (st', ans', obs)) :
    ∃ w', (Instr.storeAt ty (a.eval (.tmp s)) v).run P w = .ok () w' ∧ Rel w0 st' a w' := by
  unfold qfN at h
  split at h
  · rename_i t vs cs i e1 e2 e3
    split at h
    · rename_i hc
      obtain ⟨c1, c2⟩ := hc
      simp only [Option.some.injEq, Prod.mk.injEq] at h
      obtain ⟨rfl, _, _⟩ := h
      unfold ncs at e2
      rw [Option.map_eq_some_iff] at e2
      obtain ⟨ls, e2, rfl⟩ := e2
      obtain ⟨hls, hone⟩ := PV.leaves_sat e2 hq
      have hsz : v.cells.size = ls.length := hls.1
      rw [List.length_map] at c1 c2
      have hget : st.env[s]? = some (.one (.np t vs)) := by
        rw [List.getD_eq_getElem?_getD] at e1
        cases e : st.env[s]? with
        | none => rw [e] at e1; simp [PV.leaf] at e1
        | some p =>
          rw [e] at e1
          simp only [Option.getD_some] at e1
          cases p with
          | tup as => cases e1
          | al x =>
            cases x with
            | agg ls => cases e1
            | one l => simp only [PV.leaf, Option.some.injEq] at e1; rw [e1]
      obtain ⟨y, hy, hsat⟩ := hrel.env s _ hget
      obtain ⟨b, tyb, arr, rfl, hb, hhb, hvn, hvs⟩ := hsat
      have hev : a.eval (.tmp s) = ptrTo b := by simp [Act.eval, Array.getD_eq_getD_getElem?, hy]
      have hst := run_storeCells_at P b 0 tyb v.cells.toList 0 arr w hhb (by simp; omega) hone
      obtain ⟨arr', harr⟩ : ∃ arr', arr' = (arr.toList.take (0 + 0) ++ v.cells.toList ++ arr.toList.drop (0 + 0 + v.cells.toList.length)).toArray := ⟨_, rfl⟩
      rw [← harr] at hst
      have harr2 : arr' = (v.cells.toList ++ arr.toList.drop v.cells.size).toArray := by rw [harr]; simp
      refine ⟨w.setRow b arr', ?_, ?_⟩
      · rw [hev]
        simp only [ptrTo, Instr.storeAt, Instr.sureAddr, Sem.run_bind, Sem.run_pure, Result.andThen_ok, storeVar, sizeOf, typeInfo, run_program, e3]
        rw [if_neg (by simp; omega)]
        exact hst
      · have hhs := setRow_heap w b arr arr' tyb (0, 0) hhb
        have ev : Evolve w ω τ (w.setRow b arr') ω τ (dropT t) (fun _ => true) := by
          refine ⟨?_, ?_, fun id c _ hc => hc, rfl⟩
          · intro g g' c q hg _ hq
            obtain ⟨rfl, hnt⟩ := qhV hg hq
            exact ⟨hq, setRow_other w b c _ fun e => hnt [] (by rw [e]; exact hb)⟩
          · intro g g' y hg hy
            cases g with
            | free => simp only [dropT, Option.some.injEq] at hg; subst hg; trivial
            | own x =>
              simp only [dropT] at hg
              split at hg
              · cases hg
              · simp only [Option.some.injEq] at hg; subst hg; exact hy
            | ro x =>
              simp only [dropT] at hg
              split at hg
              · cases hg
              · simp only [Option.some.injEq] at hg; subst hg; trivial
        have h1 : RelAt w0 (st.map (Leaf.re (dropT t) fun _ => true)) a (w.setRow b arr') ω τ := by
          refine hrel.turn _ ev.sat (hrel.below.setRow (hrel.owned b (by rw [hb]; simp)).1 _) ?_ (fun id c hc => ⟨hc, setRow_other w b c _ fun e => by rw [e, hb] at hc; cases hc⟩) (fun id c hc => hc) (fun _ _ => rfl)
          intro c hc
          obtain ⟨h1, arr2, ty2, h2⟩ := hrel.owned c hc
          by_cases e : c = b
          · subst e; exact ⟨h1, _, tyb, hhs⟩
          · exact ⟨h1, arr2, ty2, (setRow_other w b c _ e).trans h2⟩
        have hcells : arr'.size = (ls.map Leaf.nc ++ vs.drop (ls.map Leaf.nc).length).length ∧ ∀ (j : Nat) (c : NC), (ls.map Leaf.nc ++ vs.drop (ls.map Leaf.nc).length)[j]? = some c → ∃ u, arr'[j]? = some u ∧ NCSat w ω τ c u := by
          refine ⟨by rw [harr2]; simp; omega, fun j c hc => ?_⟩
          rw [harr2, List.getElem?_toArray]
          by_cases hj : j < ls.length
          · rw [List.getElem?_append_left (by simpa using hj), List.getElem?_map, Option.map_eq_some_iff] at hc
            obtain ⟨l, hl, rfl⟩ := hc
            obtain ⟨u, hu1, hu2⟩ := hls.2 j l hl
            exact ⟨u, by rw [List.getElem?_append_left (by simp; omega)]; simpa using hu1, Leaf.nc_sat hu2⟩
          · rw [List.getElem?_append_right (by simpa using hj), List.length_map, List.getElem?_drop] at hc
            obtain ⟨u, hu1, hu2⟩ := hvs _ c hc
            refine ⟨u, ?_, hu2⟩
            rw [List.getElem?_append_right (by simp; omega), List.getElem?_drop, Array.getElem?_toList, ← hu1]
            congr 1
            simp only [Array.length_toList]
            omega
        have hput := qha ev.nc hcells.1 hcells.2
        have h2 := h1.put (d := s) (p := .one (.np t ((ls.map Leaf.nc ++ vs.drop (ls.map Leaf.nc).length).map (NC.re (dropT t))))) (v := ptrTo b) ⟨b, tyb, arr', rfl, hb, hhs, hput⟩
        rw [qkA hy] at h2
        exact ⟨ω, τ, h2⟩
    · cases h
  · cases h
def npBox (st : St) (d : Nat) : Option St :=
  match st.env.getD d .und with
  | .al (.one (.np t vs)) =>
    if d < giv then some ⟨(st.env.map (PV.map (Leaf.re (dropT t) (qbI d)))).set d (.one (.ptr d 0)), (d, vs.map fun c => Leaf.re (dropT t) (qbI d) c.leaf) :: (qdj d st.boxes).map fun x => (x.1, x.2.map (Leaf.re (dropT t) (qbI d)))⟩ else none
  | _ => none
theorem qn5 {w0 : Base} {st st' : St} {a : Act} {w : World} {d : Nat} (h : Rel w0 st a w) (hn : npBox st d = some st') : Rel w0 st' a w := by
  obtain ⟨ω, τ, h⟩ := h
  unfold npBox at hn
  split at hn
  · rename_i t vs he
    split at hn
    case isFalse => cases hn
    rename_i hdg
    simp only [Option.some.injEq] at hn
    subst hn
    have hget : st.env[d]? = some (.one (.np t vs)) := by
      rw [List.getD_eq_getElem?_getD] at he
      cases e : st.env[d]? with
      | none => rw [e] at he; cases he
      | some p => rw [e] at he; simp only [Option.getD_some] at he; rw [he]
    obtain ⟨v, hv1, hv2⟩ := h.env d _ hget
    obtain ⟨b, ty, arr, rfl, hb, hhb, hvn, hvs⟩ := hv2
    let ω' : Own := fun c => if c = b then .box d else match ω c with | .box i => if i = d then .imm else .box i | o => o
    have hself : ω' b = .box d := by simp [ω']
    have hother : ∀ c, c ≠ b → ω' c = (match ω c with | .box i => if i = d then .imm else .box i | o => o) := by
      intro c hc
      simp only [ω']
      rw [if_neg hc]
    have ev : Evolve w ω τ w ω' τ (dropT t) (qbI d) := by
      refine ⟨?_, ?_, ?_, rfl⟩
      · intro g g' c q hg _ hq
        obtain ⟨rfl, hnt⟩ := qhV hg hq
        have hcb : c ≠ b := fun e => hnt [] (by rw [e]; exact hb)
        refine ⟨?_, rfl⟩
        rw [hother c hcb]
        cases g' with
        | free => simp only [Tag.R] at hq ⊢; rw [hq]
        | own s => simp only [Tag.R] at hq ⊢; rw [hq]
        | ro s =>
          simp only [Tag.R] at hq ⊢
          rcases hq with hq | ⟨q', hq⟩
          · rw [hq]; exact .inl rfl
          · rw [hq]; exact .inr ⟨q', rfl⟩
      · intro g g' y hg hy
        cases g with
        | free => simp only [dropT, Option.some.injEq] at hg; subst hg; trivial
        | own s =>
          simp only [dropT] at hg
          split at hg
          · cases hg
          · simp only [Option.some.injEq] at hg; subst hg; exact hy
        | ro s =>
          simp only [dropT] at hg
          split at hg
          · cases hg
          · simp only [Option.some.injEq] at hg; subst hg; trivial
      · intro i c hp hc
        have hcb : c ≠ b := fun e => by rw [e, hb] at hc; cases hc
        rw [hother c hcb, hc]
        simp only [qbI, decide_eq_true_eq] at hp
        simp [hp]
    have howned : Owned w0 w ω' := by
      intro c hc
      by_cases e : c = b
      · subst e; exact h.owned c (by rw [hb]; simp)
      · rw [hother c e] at hc
        exact h.owned c (fun e' => by rw [e'] at hc; exact hc rfl)
    have key := h.evolve (bs := (d, vs.map fun c => Leaf.re (dropT t) (qbI d) c.leaf) :: (qdj d st.boxes).map fun x => (x.1, x.2.map (Leaf.re (dropT t) (qbI d)))) ev h.below howned ?_ (fun i c hi hc => by
      by_cases hn : c = b
      · subst hn
        rw [hself] at hc
        simp only [Owner.box.injEq] at hc
        omega
      · rw [hother c hn] at hc
        cases e : ω c with
        | imm => simp [e] at hc
        | tok t q => simp [e] at hc
        | box j =>
          simp only [e] at hc
          split at hc
          · cases hc
          · exact hc)
    · have := key.put (d := d) (p := .one (.ptr d 0)) (v := ptrTo b) ⟨b, hself, rfl⟩
      rw [qkA hv1] at this
      exact ⟨ω', τ, this⟩
    · intro i ls' hl
      simp only [qaz] at hl
      split at hl
      · rename_i hi
        subst hi
        have e := Option.some.inj hl
        subst e
        refine ⟨b, arr, ty, hself, ?_, hhb, by simpa using hvn, fun j l hj => ?_⟩
        · intro b' hb'
          by_cases hn : b' = b
          · exact hn
          · rw [hother b' hn] at hb'
            cases e : ω b' with
            | imm => simp [e] at hb'
            | tok t q => simp [e] at hb'
            | box j =>
              simp only [e] at hb'
              split at hb'
              · cases hb'
              · rename_i hne; simp only [Owner.box.injEq] at hb'; exact absurd hb' hne
        · rw [List.getElem?_map, Option.map_eq_some_iff] at hj
          obtain ⟨c, hc, rfl⟩ := hj
          obtain ⟨u, hu1, hu2⟩ := hvs j c hc
          exact ⟨u, hu1, ev.sat _ _ (NC.leaf_sat hu2)⟩
      · rename_i hi
        rw [qe0, Option.map_eq_some_iff] at hl
        obtain ⟨ls0, h0, rfl⟩ := hl
        have hne : i ≠ d := fun e => hi e.symm
        rw [qfy hne] at h0
        obtain ⟨c, arr', ty', hc, hu, hh, hsat⟩ := h.boxes i ls0 h0
        refine ⟨c, arr', ty', ev.box i c (by simp [qbI, hne]) hc, ?_, hh, hsat.map ev.sat⟩
        intro b' hb'
        by_cases hn : b' = b
        · subst hn; rw [hself] at hb'; simp only [Owner.box.injEq] at hb'; exact absurd hb'.symm hne
        · rw [hother b' hn] at hb'
          refine hu b' ?_
          cases e : ω b' with
          | imm => simp [e] at hb'
          | tok t q => simp [e] at hb'
          | box j =>
            simp only [e] at hb'
            split at hb'
            · cases hb'
            · exact hb'
  · cases hn
def qe9 : List Nat → St → Option St
  | [], st => some st
  | d :: ds, st => (npBox st d).bind (qe9 ds)
theorem qkB {w0 : Base} {a : Act} {w : World} : ∀ {ds : List Nat} {st st' : St}, Rel w0 st a w → qe9 ds st = some st' → Rel w0 st' a w
  | [], st, st', h, hn => by simp only [qe9, Option.some.injEq] at hn; subst hn; exact h
  | d :: ds, st, st', h, hn => by
    simp only [qe9, Option.bind_eq_some_iff] at hn
    obtain ⟨st1, h1, h2⟩ := hn
    exact qkB (qn5 h h1) h2
def qbb (s n : Nat) : Tag → Option Tag
  | .own x => if x = s then some (.ro n) else if x = n then none else some (.own x)
  | .ro x => if x = s then some (.ro n) else if x = n then none else some (.ro x)
  | .free => some .free
def qbc (s n l : Nat) : Owner → Owner
  | .tok x q => if x = s then (match q with | [] => .tok n [] | (i, j) :: r => if i < l then .imm else .tok n ((i - l, j) :: r)) else if x = n then .imm else .tok x q
  | o => o
theorem qkC {s n l : Nat} {o : Owner} (h : qbc s n l o ≠ .imm) : o ≠ .imm := by rintro rfl; exact h rfl
theorem qfa {s n l : Nat} {o : Owner} {id : Nat} : qbc s n l o = .box id ↔ o = .box id := by
  cases o with
  | imm => simp [qbc]
  | box i => simp [qbc]
  | tok x q =>
    simp only [qbc]
    split
    · split
      · simp
      · split <;> simp
    · split <;> simp
theorem qkD {s n l : Nat} {q : List (Nat × Nat)} : qbc s n l (.tok s q) = .imm ∨ ∃ q', qbc s n l (.tok s q) = .tok n q' := by
  simp only [qbc, if_true]
  split
  · exact .inr ⟨_, rfl⟩
  · split
    · exact .inl rfl
    · exact .inr ⟨_, rfl⟩
theorem qkE {w : World} {ω : Own} {τ : Nat → Nat × Value} {s n l k : Nat} {z : Value} : Evolve w ω τ w (fun b => qbc s n l (ω b)) (qaU τ n k z) (qbb s n) (fun _ => true) := by
  refine ⟨?_, ?_, ?_, rfl⟩
  · intro g g' b q hg _ hq
    refine ⟨?_, rfl⟩
    cases g with
    | free => simp only [qbb, Option.some.injEq] at hg; subst hg; simp only [Tag.R] at hq ⊢; rw [hq]; rfl
    | own x =>
      simp only [qbb] at hg
      simp only [Tag.R] at hq
      split at hg
      · rename_i hs
        simp only [Option.some.injEq] at hg; subst hg; subst hs
        simp only [Tag.R, hq]
        exact qkD
      · rename_i hs
        split at hg
        · cases hg
        · rename_i hn
          simp only [Option.some.injEq] at hg; subst hg
          simp only [Tag.R, hq, qbc, if_neg hs, if_neg hn]
    | ro x =>
      simp only [qbb] at hg
      simp only [Tag.R] at hq
      split at hg
      · rename_i hs
        simp only [Option.some.injEq] at hg; subst hg; subst hs
        rcases hq with hq | ⟨q', hq⟩
        · rw [hq]; exact .inl rfl
        · rw [hq]; exact qkD
      · rename_i hs
        split at hg
        · cases hg
        · rename_i hn
          simp only [Option.some.injEq] at hg; subst hg
          rcases hq with hq | ⟨q', hq⟩
          · rw [hq]; exact .inl rfl
          · rw [hq]; simp only [qbc, if_neg hs, if_neg hn]; exact .inr ⟨q', rfl⟩
  · intro g g' y hg hy
    cases g with
    | free => simp only [qbb, Option.some.injEq] at hg; subst hg; trivial
    | own x =>
      simp only [qbb] at hg
      split at hg
      · simp only [Option.some.injEq] at hg; subst hg; trivial
      · rename_i hs
        split at hg
        · cases hg
        · rename_i hn
          simp only [Option.some.injEq] at hg; subst hg
          simp only [Tag.hdr, qaU, if_neg hn] at hy ⊢
          exact hy
    | ro x =>
      simp only [qbb] at hg
      split at hg
      · simp only [Option.some.injEq] at hg; subst hg; trivial
      · split at hg
        · cases hg
        · simp only [Option.some.injEq] at hg; subst hg; trivial
  · intro id b _ hb
    exact qfa.2 hb
def qbz (s d : Nat) : Nat := if s < giv then s else d
def stepCut (P : Program) (st : St) (d : Nat) (t : TypeId) (p : PV) (lo hi mx : Option Operand) (ans : List Ans) : Stepped :=
  match qcL P t, p.leaf, mx with
  | some (_, k), some (.sl (.own s) k' es), none =>
    if k = k' ∧ qbz s d < giv then
      match qbj st lo, qbj st hi with
      | some l, some h =>
        let st2 := st.map (Leaf.re (qbb s (qbz s d)) fun _ => true)
        some (⟨st2.env.set d (.one (.sl (.own (qbz s d)) k ((es.drop (l.getD 0).toNat).take ((h.getD es.length).toNat - (l.getD 0).toNat)))), st2.boxes⟩, ans, [0 ≤ l.getD 0, l.getD 0 ≤ h.getD es.length, h.getD es.length ≤ es.length])
      | _, _ => none
    else none
  | _, _, _ => none
theorem RelAt.stepCut {P : Program} {w0 : Base} {w : World} {a : Act} {st st' : St} {ω : Own} {τ : Nat → Nat × Value} {d : Nat} {t : TypeId} {p : PV} {v : Value} {lo hi mx : Option Operand} {ans ans' : List Ans} {obs : List Prop}
    (hrel : RelAt w0 st a w ω τ) (hp : SatP (Sat w ω τ) p v) (h : stepCut P st d t p lo hi mx ans = some (st', ans', obs)) (ho : Obs obs) :
    ∃ z, (Instr.sliceAt t v (lo.map a.eval) (hi.map a.eval) (mx.map a.eval)).run P w = .ok z w ∧ Rel w0 st' (a.put (some d) z) w := by
  unfold Go.Sx.stepCut at h
  split at h
  · rename_i e k s k' es e1 e2
    split at h
    · rename_i hk
      obtain ⟨rfl, hs⟩ := hk
      split at h
      · rename_i l hh e3 e4
        simp only [Option.some.injEq, Prod.mk.injEq] at h
        obtain ⟨rfl, _, rfl⟩ := h
        obtain ⟨hu, i, hi', hz⟩ := qeq e1
        obtain ⟨hr, _⟩ := PV.leaf_sat e2 hp
        obtain ⟨o1, o2, o3, _⟩ := ho
        have h3 := qe2 hrel e3
        have h4 := qe2 hrel e4
        have hl' : (lo.map a.eval = none ∧ l.getD 0 = 0) ∨ ∃ k, lo.map a.eval = some (.int k (l.getD 0)) := by
          rcases h3 with ⟨h, rfl⟩ | ⟨k, n, h, rfl⟩
          · exact .inl ⟨h, rfl⟩
          · exact .inr ⟨k, h⟩
        have hh' : (hi.map a.eval = none ∧ hh.getD es.length = es.length) ∨ ∃ k, hi.map a.eval = some (.int k (hh.getD es.length)) := by
          rcases h4 with ⟨h, rfl⟩ | ⟨k, n, h, rfl⟩
          · exact .inl ⟨h, rfl⟩
          · exact .inr ⟨k, h⟩
        have key : ∀ (L m : Nat) (z : Value), L ≤ m → Rep w (fun b => qbc s (qbz s d) L (ω b)) (Tag.own (qbz s d)).R (.sl k ((es.drop L).take (m - L))) z →
            Rel w0 ⟨(st.map (Leaf.re (qbb s (qbz s d)) fun _ => true)).env.set d (.one (.sl (.own (qbz s d)) k ((es.drop L).take (m - L)))), (st.map (Leaf.re (qbb s (qbz s d)) fun _ => true)).boxes⟩ (a.put (some d) z) w := by
          intro L m z _ hrep
          have h1 : RelAt w0 (st.map (Leaf.re (qbb s (qbz s d)) fun _ => true)) a w (fun b => qbc s (qbz s d) L (ω b)) (qaU τ (qbz s d) k z) :=
            hrel.turn _ qkE.sat hrel.below (fun b hb => hrel.owned b (qkC hb)) (fun id b hb => ⟨qfa.2 hb, rfl⟩) (fun id b hb => qfa.1 hb)
              (fun t ht => by simp only [qaU]; rw [if_neg (by omega)])
          exact ⟨_, _, h1.put (p := .one (.sl (.own (qbz s d)) k ((es.drop L).take (m - L)))) ⟨hrep, by simp [Tag.hdr, qaU]⟩⟩
        cases hr with
        | nil _ _ a0 =>
          simp only [List.length_nil] at *
          have e0 : l.getD 0 = 0 := by omega
          have e0' : hh.getD ((0 : Nat) : Int) = 0 := by omega
          refine ⟨.slice a0 0 0, ?_, ?_⟩
          · simp only [Instr.sliceAt, Sem.run_bind, run_underlying hu, Result.andThen_ok, Instr.slice, Option.map_none]
            rw [qe1 hl' hh' o1 o2 o3]
            have e0'' : hh.getD 0 = 0 := by simpa using e0'
            simp [sizeOf, typeInfo, hi', e0, e0'']
          · refine key _ _ _ (by omega) ?_
            simp only [List.drop_nil, List.take_nil]
            exact .nil _ _ _
        | row R k es b off cap arr ty fr us hb hR hc hsz hk hu' hd =>
          refine ⟨sliced (some ⟨b, off, none⟩) (l.getD 0).toNat (hh.getD es.length).toNat cap k, ?_, ?_⟩
          · simp only [Instr.sliceAt, Sem.run_bind, run_underlying hu, Result.andThen_ok, Instr.slice, Option.map_none]
            rw [qe1 hl' hh' o1 o2 (by omega)]
            simp [sizeOf, typeInfo, hi', hz, sliced]
          · refine key _ _ _ (by omega) ?_
            have := Rep.sub (.row _ k es b off cap arr ty fr us hb hR hc hsz hk hu' hd) (l := (l.getD 0).toNat) (m := (hh.getD es.length).toNat) (by omega) (by omega)
              (R' := fun q o => match q with | [] => o = .tok s [] | (i, j) :: r => o = .tok s ((i + (l.getD 0).toNat, j) :: r)) (fun o h => h) (fun i j q o hli h => by
                simp only [Tag.R] at h
                simp only [Nat.sub_add_cancel hli]
                exact h)
            refine this.frame fun c q _ hq => ⟨?_, rfl⟩
            simp only [Tag.R]
            cases q with
            | nil => simp only at hq; rw [hq]; simp [qbc]
            | cons x r =>
              obtain ⟨i, j⟩ := x
              simp only at hq
              rw [hq]
              have hL : ¬ (i + (l.getD 0).toNat < (l.getD 0).toNat) := by omega
              simp only [qbc, if_true, if_neg hL, Nat.add_sub_cancel]
      · cases h
    · cases h
  · cases h
end Go.Sx
namespace Go.Sx
open Go.RowKit
def laid (arr : Array Value) (o : Nat) (cs : List Value) : Array Value := (arr.toList.take o ++ cs ++ arr.toList.drop (o + cs.length)).toArray
theorem qbX {arr : Array Value} {o : Nat} {cs : List Value} (h : o + cs.length ≤ arr.size) : (laid arr o cs).size = arr.size := by
  simp [laid]; omega
theorem qbl {arr : Array Value} {o : Nat} {cs : List Value} (h : o + cs.length ≤ arr.size) (x : Nat) :
    (laid arr o cs)[x]? = if o ≤ x ∧ x < o + cs.length then cs[x - o]? else arr[x]? := by
  simp only [laid, List.getElem?_toArray, List.append_assoc]
  have hl : (arr.toList.take o).length = o := by simp; omega
  split
  · rename_i hx
    rw [List.getElem?_append_right (by omega), List.getElem?_append_left (by omega), hl]
  · rename_i hx
    by_cases h1 : x < o
    · rw [List.getElem?_append_left (by omega), List.getElem?_take, if_pos h1, Array.getElem?_toList]
    · rw [List.getElem?_append_right (by omega), List.getElem?_append_right (by omega), hl, List.getElem?_drop, Array.getElem?_toList]
      congr 1
      omega
theorem qfO {P : Program} (w : World) (dT sT ty elem : TypeId) (k b o dLen dCap : Nat) (arr : Array Value) (tb : TypeId) (a : Addr) (sLen sCap : Nat) (cs : List Value)
    (hu : P.underlying dT = some (.slice elem)) (hs : (P.info? elem).map (·.size) = some k) (hb : w.heap[b]? = some (.cells arr tb (0, 0))) (hn : cs.length = Nat.min sLen dLen * k)
    (hsrc : ∀ j v, cs[j]? = some v → w.cell? (a.add j) = some v) (hfit : o + cs.length ≤ arr.size) (h1 : ∀ v ∈ cs, v.oneCell' = true) :
    (Builtin.copy_ #[dT, sT] ty #[.slice (some ⟨b, o, none⟩) dLen dCap, .slice (some a) sLen sCap]).run P w = .ok (goInt (Nat.min sLen dLen)) (w.setRow b (laid arr o cs)) := by
  have hf := run_firstCells_some (P := P) w k (Nat.min sLen dLen) a sLen sCap cs hn hsrc
  have hst := run_storeCells_at P b o tb cs 0 arr w hb (by simpa using hfit) h1
  simp only [Nat.add_zero] at hst
  cases hq : P.info? elem with
  | none => simp [hq] at hs
  | some i =>
    have hi : i.size = k := by simpa [hq] using hs
    subst hi
    simp [Builtin.copy_, run_underlying hu, Builtin.lenOf, sizeOf, typeInfo, hq, hf, hst, laid]
theorem qkF {P : Program} (w : World) (t e ty : TypeId) (z : Value) (ht : P.underlying t = some (.slice e)) (hv : (zeroValue e).run P w = .ok z w) (b o n c : Nat) (arr : Array Value) (tb : TypeId)
    (hb : w.heap[b]? = some (.cells arr tb (0, 0))) (hfit : o + n * z.cells.size ≤ arr.size) (h1 : ∀ v ∈ z.cells.toList, v.oneCell' = true) :
    ∃ zs : List Value, zs.length = n * z.cells.size ∧ (∀ m, m < n * z.cells.size → zs[m]? = z.cells[m % z.cells.size]?) ∧ (Builtin.clear_ #[t] ty #[.slice (some ⟨b, o, none⟩) n c]).run P w = .ok (.tuple #[]) (if n = 0 then w else w.setRow b (laid arr o zs)) := by
  refine ⟨(Builtin.zeroCells z.cells n).toList, by simp [Builtin.zeroCells], fun m hm => ?_, ?_⟩
  · have hpos : 0 < z.cells.size := by
      rcases Nat.eq_zero_or_pos z.cells.size with h | h
      · rw [h] at hm; simp at hm
      · exact h
    simp only [Builtin.zeroCells, Array.toList_map, Array.toList_range, List.getElem?_map, List.getElem?_range hm, Option.map_some]
    rw [getElem!_pos z.cells _ (Nat.mod_lt _ hpos), Array.getElem?_eq_getElem (Nat.mod_lt _ hpos)]
  have hone : ∀ v ∈ (Builtin.zeroCells z.cells n).toList, v.oneCell' = true := by
    intro v hv'
    simp only [Builtin.zeroCells, Array.toList_map, List.mem_map, Array.toList_range, List.mem_range] at hv'
    obtain ⟨i, hi, rfl⟩ := hv'
    have hpos : 0 < z.cells.size := by
      rcases Nat.eq_zero_or_pos z.cells.size with h | h
      · rw [h] at hi; simp at hi
      · exact h
    refine h1 _ ?_
    rw [getElem!_pos z.cells _ (Nat.mod_lt _ hpos)]
    simp
  have hst := run_storeCells_at P b o tb (Builtin.zeroCells z.cells n).toList 0 arr w hb (by simpa [Builtin.zeroCells] using hfit) hone
  simp only [Nat.add_zero] at hst
  cases n with
  | zero => simp [Builtin.clear_, run_underlying ht]
  | succ n => simp [Builtin.clear_, run_underlying ht, hv, hst, laid]
def qev (t k : Nat) (es' : List (List D)) : Leaf → Leaf
  | .sl (.own s) k' es => if s = t then .sl (.own t) k es' else .sl (.own s) k' es
  | l => Leaf.re (dropT t) (fun _ => true) l
def qfP (P : Program) (st : St) (d : Nat) (t : TypeId) (x : Operand) (lo : Option Operand) (tc : TypeId) (ans : List Ans) : Stepped :=
  match qcL P t, (st.ev x).leaf with
  | some (e, k), some (.sl (.own tk) k' es) =>
    match P.info? e with
    | some i =>
      match i.zero, qbj st lo with
      | some z, some l =>
        if k = k' ∧ t = tc ∧ z.cells.size = k ∧ z.cells.toList.all (fun v => v.oneCell') = true ∧ d < st.env.length then
          let st2 := st.map (qev tk k (es.take (l.getD 0).toNat ++ List.replicate (es.length - (l.getD 0).toNat) (z.cells.toList.map .v)))
          some (⟨st2.env.set d .und, st2.boxes⟩, ans, [0 ≤ l.getD 0, l.getD 0 < es.length, Flat es])
        else none
      | _, _ => none
    | none => none
  | _, _ => none
theorem RelAt.clear {P : Program} {w0 : Base} {st st' : St} {a : Act} {w : World} {ω : Own} {τ : Nat → Nat × Value} {d : Nat} {t tc : TypeId} {x : Operand} {lo : Option Operand} {ans ans' : List Ans} {obs : List Prop}
    (hrel : RelAt w0 st a w ω τ) (h : qfP P st d t x lo tc ans = some (st', ans', obs)) (ho : Obs obs) :
    d < a.tmps.size ∧ ∃ y z w', (Instr.sliceAt t (a.eval x) (lo.map a.eval) none none).run P w = .ok y w ∧ (∀ ty, (Builtin.clear_ #[tc] ty #[y]).run P w = .ok z w') ∧ Rel w0 st' (a.put (some d) y) w' := by
  unfold qfP at h
  split at h
  · rename_i e k tk k' es he hx
    split at h
    · rename_i i hi
      split at h
      · rename_i z l hz hlo
        split at h
        · rename_i hc
          obtain ⟨rfl, rfl, hzk, hz1, hdl⟩ := hc
          refine ⟨by rw [hrel.size]; exact hdl, ?_⟩
          simp only [Option.some.injEq, Prod.mk.injEq] at h
          obtain ⟨rfl, _, rfl⟩ := h
          obtain ⟨o1, o2, hflat, _⟩ := ho
          obtain ⟨hu, i2, hi2, hsz⟩ := qeq he
          obtain ⟨hr, hh⟩ := PV.leaf_sat hx (hrel.ev x)
          have h3 := qe2 hrel hlo
          have hl' : (lo.map a.eval = none ∧ l.getD 0 = 0) ∨ ∃ k, lo.map a.eval = some (.int k (l.getD 0)) := by
            rcases h3 with ⟨h, rfl⟩ | ⟨k, n, h, rfl⟩
            · exact .inl ⟨h, rfl⟩
            · exact .inr ⟨k, h⟩
          generalize hev : a.eval x = y0 at hr hh
          cases hr with
          | nil _ _ a0 => simp at o2; omega
          | row R k es b off cap arr ty fr us hb hR hcap hs hk hu' hd =>
            have hR' : ω b = .tok tk [] := hR
            obtain ⟨hown, arr0, ty0, hb0⟩ := hrel.owned b (by rw [hR']; simp)
            rw [hb] at hb0
            simp only [Option.some.injEq, Obj.cells.injEq] at hb0
            obtain ⟨rfl, rfl, rfl⟩ := hb0
            obtain ⟨L, hL⟩ : ∃ L, L = (l.getD 0).toNat := ⟨_, rfl⟩
            have hLl : L < es.length := by omega
            rw [← hL]
            have hfit : off + L * k + (es.length - L) * z.cells.size ≤ arr.size := by
              rw [hzk, Nat.add_assoc, ← Nat.add_mul, show L + (es.length - L) = es.length by omega]
              have := Nat.mul_le_mul_right k hcap
              omega
            have hzv : (zeroValue e).run P w = .ok z w := by simp [zeroValue, typeInfo, hi, hz]
            obtain ⟨zs, hzl, hzg, hclr⟩ : ∃ zs : List Value, zs.length = (es.length - L) * z.cells.size ∧ (∀ m, m < (es.length - L) * z.cells.size → zs[m]? = z.cells[m % z.cells.size]?) ∧
                ∀ ty, (Builtin.clear_ #[t] ty #[.slice (some ⟨b, off + L * k, none⟩) (es.length - L) (cap - L)]).run P w = .ok (.tuple #[]) (if es.length - L = 0 then w else w.setRow b (laid arr (off + L * k) zs)) := by
              obtain ⟨zs, h1, h2, h3⟩ := qkF (P := P) w t e 0 z hu hzv b (off + L * k) (es.length - L) (cap - L) arr ty hb hfit (List.all_eq_true.1 hz1)
              exact ⟨zs, h1, h2, fun ty' => h3⟩
            rw [if_neg (by omega)] at hclr
            rw [hzk] at hzl hzg
            have hl2 : off + L * k + zs.length ≤ arr.size := by rw [hzl, ← hzk]; exact hzk ▸ hfit
            refine ⟨.slice (some ⟨b, off + L * k, none⟩) (es.length - L) (cap - L), _, _, ?_, hclr, ?_⟩
            · simp only [Instr.sliceAt, Sem.run_bind, run_underlying hu, Result.andThen_ok, Instr.slice, Option.map_none]
              rw [qe1 (h := es.length) hl' (.inl ⟨rfl, rfl⟩) o1 (by omega) (by omega)]
              have hne : ¬ cap = L := by omega
              simp [sizeOf, typeInfo, hi2, hsz, ← hL, hne, Addr.add_lit]
            · -- what stands behind it
              have hhs := setRow_heap w b arr (laid arr (off + L * k) zs) ty (0, 0) hb
              have hnew : Rep (w.setRow b (laid arr (off + L * k) zs)) ω (Tag.own tk).R (.sl k (es.take L ++ List.replicate (es.length - L) (z.cells.toList.map .v))) (.slice (some ⟨b, off, none⟩) es.length cap) := by
                have hlen : (es.take L ++ List.replicate (es.length - L) (z.cells.toList.map D.v)).length = es.length := by simp; omega
                have hcell : ∀ x j d, qao (es.take L ++ List.replicate (es.length - L) (z.cells.toList.map D.v)) x j = some d → ∃ v, d = .v v ∧ (laid arr (off + L * k) zs)[off + x * k + j]? = some v ∧ v.oneCell' = true := by
                  intro x j d hdx
                  rw [qhD] at hdx
                  have htl : (es.take L).length = L := by simp; omega
                  rw [htl] at hdx
                  split at hdx
                  · rename_i hxL
                    have hdx' : qao es x j = some d := by
                      unfold qao at hdx ⊢
                      rwa [List.getElem?_take, if_pos hxL] at hdx
                    obtain ⟨hxl, hjl⟩ := qe4 hk hdx'
                    have hmem : ∃ v, d = .v v := by
                      unfold qao at hdx'
                      cases e1 : es[x]? with
                      | none => simp [e1] at hdx'
                      | some ds =>
                        simp only [e1, Option.bind_some] at hdx'
                        exact hflat ds (List.mem_of_getElem? e1) d (List.mem_of_getElem? hdx')
                    obtain ⟨v, rfl⟩ := hmem
                    have h4 := hd x j _ hdx'
                    have h5 := hu' x j _ hdx'
                    generalize us x j = u at h4 h5
                    cases h4 with
                    | v _ _ h6 =>
                      refine ⟨v, rfl, ?_, h6⟩
                      rw [qbl hl2, if_neg ?_, h5]
                      have : (x + 1) * k ≤ L * k := Nat.mul_le_mul_right _ hxL
                      rw [Nat.add_mul] at this
                      omega
                  · rename_i hxL
                    unfold qao at hdx
                    rw [List.getElem?_replicate] at hdx
                    split at hdx
                    · rename_i hxn
                      simp only [Option.bind_some, List.getElem?_map, Option.map_eq_some_iff] at hdx
                      obtain ⟨v, hv, rfl⟩ := hdx
                      have hjk : j < k := by
                        have := (List.getElem?_eq_some_iff.1 hv).1
                        rw [Array.length_toList, hzk] at this
                        exact this
                      refine ⟨v, rfl, ?_, List.all_eq_true.1 hz1 v (List.mem_of_getElem? hv)⟩
                      obtain ⟨m, hm⟩ : ∃ m, x = L + m := ⟨x - L, by omega⟩
                      subst hm
                      have hmk : m * k + j < (es.length - L) * k := by
                        have : (m + 1) * k ≤ (es.length - L) * k := Nat.mul_le_mul_right _ (by omega)
                        rw [Nat.add_mul] at this
                        omega
                      have e1 : off + (L + m) * k + j = off + L * k + (m * k + j) := by rw [Nat.add_mul]; omega
                      rw [e1, qbl hl2, if_pos (by omega), show off + L * k + (m * k + j) - (off + L * k) = m * k + j by omega, hzg _ hmk, show (m * k + j) % k = j by rw [Nat.mul_comm m k, Nat.mul_add_mod, Nat.mod_eq_of_lt hjk]]
                      simpa using hv
                    · simp at hdx
                have := Rep.row (w := w.setRow b (laid arr (off + L * k) zs)) (ω := ω) (Tag.own tk).R k (es.take L ++ List.replicate (es.length - L) (z.cells.toList.map .v)) b off cap _ ty (0, 0)
                  (fun x j => (laid arr (off + L * k) zs).getD (off + x * k + j) undef) hhs hR (by omega) (by rw [qbX hl2]; exact hs)
                  (by
                    intro e' he'
                    rcases List.mem_append.1 he' with h | h
                    · exact hk e' (List.mem_of_mem_take h)
                    · rw [List.eq_of_mem_replicate h]; simp [hzk])
                  (fun x j d hdx => by obtain ⟨v, rfl, h1, _⟩ := hcell x j d hdx; simp [Array.getD_eq_getD_getElem?, h1])
                  (fun x j d hdx => by
                    obtain ⟨v, rfl, h1, h2⟩ := hcell x j d hdx
                    have : (laid arr (off + L * k) zs).getD (off + x * k + j) undef = v := by simp [Array.getD_eq_getD_getElem?, h1]
                    rw [this]
                    exact .v _ _ h2)
                rwa [hlen] at this
              have ev : Evolve w ω τ (w.setRow b (laid arr (off + L * k) zs)) ω τ (dropT tk) (fun _ => true) := by
                refine ⟨?_, ?_, fun id c _ hc => hc, rfl⟩
                · intro g g' c q hg _ hq
                  obtain ⟨rfl, hnt⟩ := qhV hg hq
                  exact ⟨hq, setRow_other w b c _ fun e => hnt [] (by rw [e]; exact hR')⟩
                · intro g g' y hg hy
                  cases g with
                  | free => simp only [dropT, Option.some.injEq] at hg; subst hg; trivial
                  | own x =>
                    simp only [dropT] at hg
                    split at hg
                    · cases hg
                    · simp only [Option.some.injEq] at hg; subst hg; exact hy
                  | ro x =>
                    simp only [dropT] at hg
                    split at hg
                    · cases hg
                    · simp only [Option.some.injEq] at hg; subst hg; trivial
              have hsat : ∀ lf v, Sat w ω τ lf v → Sat (w.setRow b (laid arr (off + L * k) zs)) ω τ (qev tk k (es.take L ++ List.replicate (es.length - L) (z.cells.toList.map .v)) lf) v := by
                intro lf v hsv
                by_cases hcase : ∃ s k' es', lf = .sl (.own s) k' es'
                · obtain ⟨s, k', es', rfl⟩ := hcase
                  simp only [qev]
                  split
                  · rename_i hst
                    subst hst
                    obtain ⟨_, h2⟩ := hsv
                    simp only [Tag.hdr] at h2 hh
                    rw [h2] at hh
                    simp only [Prod.mk.injEq] at hh
                    obtain ⟨rfl, rfl⟩ := hh
                    exact ⟨hnew, h2⟩
                  · rename_i hst
                    have := ev.sat (.sl (.own s) k' es') v hsv
                    simpa [Leaf.re, dropT, hst] using this
                · have h9 : qev tk k (es.take L ++ List.replicate (es.length - L) (z.cells.toList.map .v)) lf = Leaf.re (dropT tk) (fun _ => true) lf := by
                    unfold qev
                    split
                    · exact absurd ⟨_, _, _, rfl⟩ hcase
                    · rfl
                  rw [h9]
                  exact ev.sat lf v hsv
              have h1 : RelAt w0 (st.map (qev tk k (es.take L ++ List.replicate (es.length - L) (z.cells.toList.map .v)))) a (w.setRow b (laid arr (off + L * k) zs)) ω τ := by
                refine hrel.turn _ hsat (hrel.below.setRow hown _) ?_ (fun id c hc => ⟨hc, setRow_other w b c _ fun e => by rw [e, hR'] at hc; cases hc⟩) (fun id c hc => hc) (fun _ _ => rfl)
                intro c hc
                obtain ⟨h1, arr2, ty2, h2⟩ := hrel.owned c hc
                by_cases e : c = b
                · subst e; exact ⟨h1, _, ty, hhs⟩
                · exact ⟨h1, arr2, ty2, (setRow_other w b c _ e).trans h2⟩
              exact ⟨ω, τ, h1.put (p := .und) trivial⟩
        · cases h
      · cases h
    · cases h
  · cases h
end Go.Sx
