/- Structs that are built; the small operations; all that only computes, as one. -/
import Derived.Test.YtamiheofgejehaaR4
set_option linter.unusedVariables false
set_option linter.unusedSimpArgs false
namespace Go.Sx
open Go.RowKit

def Leaf.ok : Leaf → Bool
  | .und => false
  | .v x => x.oneCell'
  | _ => true

theorem Rep.oneCell {w : World} {ω : Own} {R : List (Nat × Nat) → Owner → Prop} {d : D} {y : Value} (h : Rep w ω R d y) : y.oneCell' = true := by
  cases h with
  | v R x h1 => exact h1
  | nil => rfl
  | row => rfl

theorem Leaf.ok_cell {w : World} {ω : Own} {τ : Nat → Nat × Value} {l : Leaf} {y : Value} (h : l.ok = true) (hs : Sat w ω τ l y) : y.oneCell' = true := by
  cases l with
  | und => cases h
  | v x => have : y = x := hs; subst this; exact h
  | sb c => have : y = .bool c := hs; subst this; rfl
  | sl t k es => exact hs.1.oneCell
  | ptr id off => obtain ⟨b, _, rfl⟩ := hs; rfl
  | ep t k es i j => obtain ⟨b, off, cap, rfl, _⟩ := hs; rfl

theorem oneCell_cells {y : Value} (h : y.oneCell' = true) : y.cells = #[y] := by
  cases y <;> first | rfl | (simp [Value.oneCell'] at h)

def PV.leaves : PV → Option (List Leaf)
  | .al (.one l) => if l.ok then some [l] else none
  | .al (.agg ls) => if ls.all Leaf.ok then some ls else none
  | _ => none

theorem PV.leaves_sat {w : World} {ω : Own} {τ : Nat → Nat × Value} {p : PV} {ls : List Leaf} {y : Value} (h : p.leaves = some ls) (hs : SatP (Sat w ω τ) p y) :
    SatL (Sat w ω τ) ls y.cells ∧ ∀ u ∈ y.cells.toList, u.oneCell' = true := by
  unfold PV.leaves at h
  split at h
  · rename_i l
    split at h
    · rename_i hok
      simp only [Option.some.injEq] at h
      subst h
      have h1 := Leaf.ok_cell hok hs
      rw [oneCell_cells h1]
      refine ⟨⟨rfl, fun i l' hl => ?_⟩, by simpa using h1⟩
      cases i with
      | zero => simp at hl; subst hl; exact ⟨y, rfl, hs⟩
      | succ i => simp at hl
    · cases h
  · rename_i ls'
    split at h
    · rename_i hok
      simp only [Option.some.injEq] at h
      subst h
      obtain ⟨vs, rfl, hn, hv⟩ := hs
      refine ⟨⟨hn, hv⟩, fun u hu => ?_⟩
      obtain ⟨i, hi⟩ := List.mem_iff_getElem?.1 hu
      have hlt : i < ls'.length := by
        have := (List.getElem?_eq_some_iff.1 hi).1
        simp [Value.cells] at this
        omega
      obtain ⟨u', h1, h2⟩ := hv i ls'[i] (by simp)
      have e : u = u' := by
        have : (Value.agg vs).cells.toList[i]? = vs[i]? := by simp [Value.cells]
        rw [this, h1] at hi
        exact (Option.some.inj hi).symm
      subst e
      exact Leaf.ok_cell (List.all_eq_true.1 hok _ (List.getElem_mem hlt)) h2
    · cases h
  · cases h

theorem foldl_set_get (off : Nat) : ∀ (vs : List Value) (k : Nat) (cells : Array Value) (i : Nat), off + k + vs.length ≤ cells.size →
    ((vs.zipIdx k).foldl (fun cs (x : Value × Nat) => cs.setIfInBounds (off + x.2) x.1) cells)[i]? = if off + k ≤ i ∧ i < off + k + vs.length then vs[i - (off + k)]? else cells[i]?
  | [], k, cells, i, _ => by simp; intro h1 h2; omega
  | v :: vs, k, cells, i, h => by
    simp only [List.zipIdx_cons, List.foldl_cons, List.length_cons] at h ⊢
    rw [foldl_set_get off vs (k + 1) _ i (by simp; omega), Array.getElem?_setIfInBounds]
    by_cases h1 : off + k = i
    · subst h1
      rw [if_neg (by omega), if_pos rfl, if_pos (by omega), if_pos (by omega)]
      simp
    · by_cases h2 : off + (k + 1) ≤ i ∧ i < off + (k + 1) + vs.length
      · rw [if_pos h2, if_pos (by omega)]
        obtain ⟨j, hj⟩ : ∃ j, i - (off + k) = j + 1 := ⟨i - (off + k) - 1, by omega⟩
        rw [hj, List.getElem?_cons_succ]
        congr 1
        omega
      · rw [if_neg h2, if_neg h1, if_neg (by omega)]

theorem foldl_set_size (off : Nat) : ∀ (l : List (Value × Nat)) (cells : Array Value), (l.foldl (fun cs (x : Value × Nat) => cs.setIfInBounds (off + x.2) x.1) cells).size = cells.size
  | [], _ => rfl
  | x :: l, cells => by simp only [List.foldl_cons]; rw [foldl_set_size off l]; simp

def blit (ls : List Leaf) (off : Nat) (xs : List Leaf) : List Leaf := ls.take off ++ (xs ++ ls.drop (off + xs.length))

theorem blit_get {ls xs : List Leaf} {off i : Nat} (h : off + xs.length ≤ ls.length) : (blit ls off xs)[i]? = if off ≤ i ∧ i < off + xs.length then xs[i - off]? else ls[i]? := by
  unfold blit
  rw [List.getElem?_append, List.length_take, Nat.min_eq_left (by omega)]
  by_cases h1 : i < off
  · rw [if_pos h1, if_neg (by omega), List.getElem?_take, if_pos h1]
  · rw [if_neg h1, List.getElem?_append]
    by_cases h2 : i - off < xs.length
    · rw [if_pos h2, if_pos (by omega)]
    · rw [if_neg h2, if_neg (by omega), List.getElem?_drop]
      congr 1
      omega

theorem blit_length {ls xs : List Leaf} {off : Nat} (h : off + xs.length ≤ ls.length) : (blit ls off xs).length = ls.length := by
  simp [blit]; omega

def fillL (place : Nat → Option (Nat × Nat)) (ls : List Leaf) : List (Nat × PV) → Option (List Leaf)
  | [] => some ls
  | (i, p) :: rest =>
    match place i, p.leaves with
    | some (off, size), some xs => if xs.length = size ∧ off + size ≤ ls.length then fillL place (blit ls off xs) rest else none
    | _, _ => none

theorem fillL_ok {w : World} {ω : Own} {τ : Nat → Nat × Value} {place : Nat → Option (Nat × Nat)} : ∀ {parts : List (Nat × PV)} {vals : List (Nat × Value)} {ls r : List Leaf} {cells : Array Value},
    parts.length = vals.length → (∀ (j : Nat) i p, parts[j]? = some (i, p) → ∃ v, vals[j]? = some (i, v) ∧ SatP (Sat w ω τ) p v) → fillL place ls parts = some r → SatL (Sat w ω τ) ls cells →
    ∃ out, Instr.fill place cells vals = some out ∧ SatL (Sat w ω τ) r out
  | [], vals, ls, r, cells, hn, _, h, hs => by
    have : vals = [] := List.eq_nil_of_length_eq_zero (by simpa using hn.symm)
    subst this
    simp only [fillL, Option.some.injEq] at h
    subst h
    exact ⟨cells, rfl, hs⟩
  | (i, p) :: parts, vals, ls, r, cells, hn, hp, h, hs => by
    obtain ⟨v, hv, hsat⟩ := hp 0 i p rfl
    cases vals with
    | nil => simp at hv
    | cons x vals =>
      simp only [List.getElem?_cons_zero, Option.some.injEq] at hv
      subst hv
      simp only [fillL] at h
      split at h
      · rename_i off size xs e1 e2
        split at h
        · rename_i hc
          obtain ⟨hc1, hc2⟩ := hc
          obtain ⟨⟨hsz, hxs⟩, _⟩ := PV.leaves_sat e2 hsat
          have hsz' : v.cells.size = size := by omega
          have hcs : off + v.cells.size ≤ cells.size := by have := hs.1; omega
          have hnew : SatL (Sat w ω τ) (blit ls off xs) (v.cells.zipIdx.foldl (fun cs (c, j) => cs.setIfInBounds (off + j) c) cells) := by
            have e : v.cells.zipIdx.foldl (fun cs (c, j) => cs.setIfInBounds (off + j) c) cells = (v.cells.toList.zipIdx 0).foldl (fun cs (x : Value × Nat) => cs.setIfInBounds (off + x.2) x.1) cells := by
              rw [← Array.foldl_toList]
              simp
            rw [e]
            refine ⟨by rw [foldl_set_size, blit_length (by omega)]; exact hs.1, fun j l hl => ?_⟩
            rw [blit_get (by omega)] at hl
            rw [foldl_set_get off _ 0 _ _ (by simp; omega)]
            simp only [Array.length_toList, Nat.add_zero]
            by_cases hj : off ≤ j ∧ j < off + xs.length
            · rw [if_pos hj] at hl
              rw [if_pos (by omega)]
              obtain ⟨u, h1, h2⟩ := hxs _ _ hl
              exact ⟨u, by simpa using h1, h2⟩
            · rw [if_neg hj] at hl
              rw [if_neg (by omega)]
              exact hs.2 _ _ hl
          obtain ⟨out, h1, h2⟩ := fillL_ok (parts := parts) (vals := vals) (by simpa using hn) (fun j i' p' hj => by have := hp (j + 1) i' p' (by simpa using hj); simpa using this) h hnew
          refine ⟨out, ?_, h2⟩
          simp only [Instr.fill, e1]
          rw [if_neg (by simp; omega)]
          exact h1
        · cases h
      · cases h

def structPlace (P : Program) (t : TypeId) (f : Nat) : Option (Nat × Nat) :=
  match P.underlying t with
  | some (.struct fs) =>
    match fs[f]? with
    | some fd => (P.info? fd.type).map fun i => (fd.offset, i.size)
    | none => none
  | _ => none

def stepBuild (P : Program) (st : St) (t : TypeId) (parts : List (Nat × Operand)) (ans : List Ans) : Got :=
  match P.underlying t, P.info? t with
  | some (.struct fs), some i =>
    match i.zero with
    | some z =>
      if fs.toList.all fun f => (P.info? f.type).isSome then
        (fillL (structPlace P t) (z.cells.toList.map .v) (parts.map fun x => (x.1, st.ev x.2))).map fun ls => (.agg ls, ans, [])
      else none
    | none => none
  | _, _ => none

theorem mapM_sizes {P : Program} (w : World) : ∀ (fs : List Field), (∀ f ∈ fs, (P.info? f.type).isSome = true) →
    (fs.mapM fun f => (do pure (f.offset, ← sizeOf f.type) : Sem (Nat × Nat))).run P w = .ok (fs.map fun f => (f.offset, ((P.info? f.type).map (·.size)).getD 0)) w
  | [], _ => by simp
  | f :: fs, h => by
    obtain ⟨i, hi⟩ := Option.isSome_iff_exists.1 (h f (by simp))
    have ih := mapM_sizes (P := P) w fs (fun g hg => h g (by simp [hg]))
    simp only [List.mapM_cons, Sem.run_bind, sizeOf, typeInfo, run_program, Result.andThen_ok, hi, Sem.run_pure, List.map_cons, Option.map_some, Option.getD_some]
    simp only [Sem.run_bind, sizeOf, typeInfo, Sem.run_pure] at ih
    rw [ih]
    simp

theorem run_arr_mapM {P : Program} {α β : Type} (f : α → Sem β) (xs : Array α) (w : World) (r : List β) (h : (xs.toList.mapM f).run P w = .ok r w) : (xs.mapM f).run P w = .ok r.toArray w := by
  rw [← Array.toArray_toList (xs := xs), List.mapM_toArray]
  rw [← bind_pure_comp, Sem.run_bind, h]
  rfl

theorem stepBuild_ok {P : Program} {w0 w : World} {a : Act} {st : St} {ω : Own} {τ : Nat → Nat × Value} {t : TypeId} {parts : Array (Nat × Operand)} {r : PV} {ans ans' : List Ans} {obs : List Prop}
    (hrel : RelAt w0 st a w ω τ) (h : stepBuild P st t parts.toList ans = some (r, ans', obs)) :
    ∃ z, (Instr.build t (parts.map fun (i, x) => (i, a.eval x))).run P w = .ok z w ∧ SatP (Sat w ω τ) r z := by
  unfold stepBuild at h
  split at h
  · rename_i fs i hu hi
    split at h
    · rename_i z hz
      split at h
      · rename_i hall
        rw [Option.map_eq_some_iff] at h
        obtain ⟨ls, h1, h⟩ := h
        simp only [Prod.mk.injEq] at h
        obtain ⟨rfl, _, _⟩ := h
        have hzs : SatL (Sat w ω τ) (z.cells.toList.map .v) z.cells := by
          refine ⟨by simp, fun j l hl => ?_⟩
          rw [List.getElem?_map, Option.map_eq_some_iff] at hl
          obtain ⟨u, hu, rfl⟩ := hl
          exact ⟨u, by simpa using hu, rfl⟩
        obtain ⟨out, h2, h3⟩ := fillL_ok (vals := parts.toList.map fun x => (x.1, a.eval x.2)) (by simp) (fun j i' p hj => by
          rw [List.getElem?_map, Option.map_eq_some_iff] at hj
          obtain ⟨⟨i2, x⟩, hx, e⟩ := hj
          simp only [Prod.mk.injEq] at e
          obtain ⟨rfl, rfl⟩ := e
          exact ⟨a.eval x, by simp only [List.getElem?_map, hx, Option.map_some], hrel.ev x⟩) h1 hzs
        have hm := run_arr_mapM (P := P) (fun f : Field => (do pure (f.offset, ← sizeOf f.type) : Sem (Nat × Nat))) fs w _ (mapM_sizes (P := P) w fs.toList (fun f hf => List.all_eq_true.1 hall f hf))
        have hplace : (fun x => (fs.toList.map fun f => (f.offset, ((P.info? f.type).map (·.size)).getD 0)).toArray[x]?) = structPlace P t := by
          funext x
          simp only [List.getElem?_toArray, List.getElem?_map, Array.getElem?_toList, structPlace, hu]
          cases hx : fs[x]? with
          | none => rfl
          | some fd =>
            have : (P.info? fd.type).isSome = true := List.all_eq_true.1 hall fd (by simpa using Array.mem_of_getElem? hx)
            obtain ⟨i', hi'⟩ := Option.isSome_iff_exists.1 this
            simp [hi']
        refine ⟨.agg out, ?_, out, rfl, h3⟩
        simp only [Instr.build, Sem.run_bind, zeroValue, typeInfo, run_program, Result.andThen_ok, hi, Sem.run_pure, hz, run_underlying hu, hm, hplace]
        have e : (Array.map (fun (x : Nat × Operand) => (x.1, a.eval x.2)) parts).toList = parts.toList.map fun x => (x.1, a.eval x.2) := by simp
        simp only [e, h2, Sem.run_pure]
      · cases h
    · cases h
  · cases h

def stepExtract (p : PV) (ix : Nat) (ans : List Ans) : Got :=
  match p with
  | .tup as => (as[ix]?).map fun a => (.al a, ans, [])
  | _ => none

theorem stepExtract_ok {P : Program} {w : World} {ω : Own} {τ : Nat → Nat × Value} {p r : PV} {ix : Nat} {v : Value} {ans ans' : List Ans} {obs : List Prop}
    (hp : SatP (Sat w ω τ) p v) (h : stepExtract p ix ans = some (r, ans', obs)) : ∃ z, (Instr.extract v ix).run P w = .ok z w ∧ SatP (Sat w ω τ) r z := by
  unfold stepExtract at h
  split at h
  · rename_i as
    rw [Option.map_eq_some_iff] at h
    obtain ⟨al, h1, h⟩ := h
    simp only [Prod.mk.injEq] at h
    obtain ⟨rfl, _, _⟩ := h
    obtain ⟨vs, rfl, hn, hv⟩ := hp
    obtain ⟨u, h2, h3⟩ := hv _ _ h1
    exact ⟨u, by simp [Instr.extract, h2], h3⟩
  · cases h

def stepFieldV (P : Program) (t : TypeId) (p : PV) (f : Nat) (ans : List Ans) : Got :=
  match P.underlying t with
  | some (.struct fs) =>
    match fs[f]? with
    | some fd =>
      match isAggT P fd.type, P.info? fd.type, p with
      | some agg, some i, .al (.agg ls) => (loaded agg i.size ls fd.offset).map fun r => (r, ans, [])
      | _, _, _ => none
    | none => none
  | _ => none

theorem stepFieldV_ok {P : Program} {w : World} {ω : Own} {τ : Nat → Nat × Value} {t : TypeId} {p r : PV} {f : Nat} {v : Value} {ans ans' : List Ans} {obs : List Prop}
    (hp : SatP (Sat w ω τ) p v) (h : stepFieldV P t p f ans = some (r, ans', obs)) : ∃ z, (Instr.field t v f).run P w = .ok z w ∧ SatP (Sat w ω τ) r z := by
  unfold stepFieldV at h
  split at h
  · rename_i fs hu
    split at h
    · rename_i fd hf
      split at h
      · rename_i agg i ls e1 e2
        rw [Option.map_eq_some_iff] at h
        obtain ⟨r', h1, h⟩ := h
        simp only [Prod.mk.injEq] at h
        obtain ⟨rfl, _, _⟩ := h
        obtain ⟨vs, rfl, hn, hv⟩ := hp
        unfold loaded at h1
        cases agg with
        | true =>
          simp only [if_true] at h1
          split at h1
          · rename_i hle
            simp only [Option.some.injEq] at h1
            subst h1
            refine ⟨.agg (vs.extract fd.offset (fd.offset + i.size)), by simp [Instr.field, run_underlying hu, hf, asAgg, part, isAggT_run e1, sizeOf, typeInfo, e2], _, rfl, by simp; omega, fun j l hl => ?_⟩
            rw [List.getElem?_take] at hl
            split at hl
            · rw [List.getElem?_drop] at hl
              obtain ⟨u, h1, h2⟩ := hv _ l hl
              refine ⟨u, ?_, h2⟩
              rw [Array.getElem?_extract, if_pos (by omega), ← h1]
            · cases hl
          · cases h1
        | false =>
          simp only [Bool.false_eq_true, if_false, Option.map_eq_some_iff] at h1
          obtain ⟨l, hl, rfl⟩ := h1
          obtain ⟨u, h1, h2⟩ := hv _ l hl
          exact ⟨u, by simp [Instr.field, run_underlying hu, hf, asAgg, part, isAggT_run e1, h1], h2⟩
      · cases h
    · cases h
  · cases h

def stepUn (op : UnOp) (p : PV) (ans : List Ans) : Got :=
  match op, p.leaf with
  | .not, some (.sb c) => some (.one (.sb (!c)), ans, [])
  | .not, some (.v (.bool c)) => some (.one (.v (.bool (!c))), ans, [])
  | .neg, some (.v (.int k n)) => arith k (0 - n) ans
  | _, _ => none

theorem stepUn_ok {P : Program} {w : World} {ω : Own} {τ : Nat → Nat × Value} {op : UnOp} {p r : PV} {v : Value} {ans ans' : List Ans} {obs : List Prop}
    (hp : SatP (Sat w ω τ) p v) (h : stepUn op p ans = some (r, ans', obs)) (ho : Obs obs) : ∃ z, (Op.unary op v).run P w = .ok z w ∧ SatP (Sat w ω τ) r z := by
  unfold stepUn at h
  split at h
  · rename_i c e
    simp only [Option.some.injEq, Prod.mk.injEq] at h
    obtain ⟨rfl, _, _⟩ := h
    have : v = .bool c := PV.leaf_sat e hp
    subst this
    exact ⟨_, rfl, rfl⟩
  · rename_i c e
    simp only [Option.some.injEq, Prod.mk.injEq] at h
    obtain ⟨rfl, _, _⟩ := h
    have : v = .bool c := PV.leaf_sat e hp
    subst this
    exact ⟨_, rfl, rfl⟩
  · rename_i k n e
    have : v = .int k n := PV.leaf_sat e hp
    subst this
    exact ⟨_, rfl, arith_ok h ho⟩
  · cases h

def stepPick (c a b : PV) (ans : List Ans) : Got :=
  match c.leaf with
  | some (.v (.bool true)) => some (a, ans, [])
  | some (.v (.bool false)) => some (b, ans, [])
  | some (.sb c) =>
    match ans with
    | .br true :: r => some (a, r, [c = true])
    | .br false :: r => some (b, r, [c = false])
    | _ => none
  | _ => none

theorem stepPick_ok {P : Program} {w : World} {ω : Own} {τ : Nat → Nat × Value} {c a b r : PV} {u x y : Value} {ans ans' : List Ans} {obs : List Prop}
    (hc : SatP (Sat w ω τ) c u) (ha : SatP (Sat w ω τ) a x) (hb : SatP (Sat w ω τ) b y) (h : stepPick c a b ans = some (r, ans', obs)) (ho : Obs obs) :
    ∃ z, (do pure (.value (if ← asBool u then x else y)) : Sem Next).run P w = .ok (.value z) w ∧ SatP (Sat w ω τ) r z := by
  unfold stepPick at h
  split at h
  · rename_i e
    simp only [Option.some.injEq, Prod.mk.injEq] at h
    obtain ⟨rfl, _, _⟩ := h
    have : u = .bool true := PV.leaf_sat e hc
    subst this
    exact ⟨x, rfl, ha⟩
  · rename_i e
    simp only [Option.some.injEq, Prod.mk.injEq] at h
    obtain ⟨rfl, _, _⟩ := h
    have : u = .bool false := PV.leaf_sat e hc
    subst this
    exact ⟨y, rfl, hb⟩
  · rename_i c' e
    have : u = .bool c' := PV.leaf_sat e hc
    subst this
    split at h
    · simp only [Option.some.injEq, Prod.mk.injEq] at h
      obtain ⟨rfl, _, rfl⟩ := h
      have hc' : c' = true := ho.1
      subst hc'
      exact ⟨x, rfl, ha⟩
    · simp only [Option.some.injEq, Prod.mk.injEq] at h
      obtain ⟨rfl, _, rfl⟩ := h
      have hc' : c' = false := ho.1
      subst hc'
      exact ⟨y, rfl, hb⟩
    · cases h
  · cases h

def stepConvert (P : Program) (src dst : TypeId) (p : PV) (ans : List Ans) : Got :=
  match P.underlying src, P.underlying dst, p.int with
  | some _, some (.int k), some (_, n) => arith k n ans
  | _, _, _ => none

theorem stepConvert_ok {P : Program} {w : World} {ω : Own} {τ : Nat → Nat × Value} {src dst : TypeId} {p r : PV} {v : Value} {ans ans' : List Ans} {obs : List Prop}
    (hp : SatP (Sat w ω τ) p v) (h : stepConvert P src dst p ans = some (r, ans', obs)) (ho : Obs obs) : ∃ z, (convert src dst v).run P w = .ok z w ∧ SatP (Sat w ω τ) r z := by
  unfold stepConvert at h
  split at h
  · rename_i d k kk n e1 e2 e3
    rw [PV.int_sat e3 hp]
    exact ⟨_, by simp [convert, run_underlying e1, run_underlying e2, Conv.intToInt], arith_ok h ho⟩
  · cases h

def stepIndex (P : Program) (t : TypeId) (p q : PV) (ans : List Ans) : Got :=
  match P.underlying t, p.leaf, q.int with
  | some .string, some (.v (.string s)), some (_, n) =>
    match ans with
    | .num m :: r => some (.one (.v (.int .u8 m)), r, [0 ≤ n, (s[n.toNat]?).map (fun b => ((b.toNat : Nat) : Int)) = some m])
    | _ => none
  | _, _, _ => none

theorem stepIndex_ok {P : Program} {w : World} {ω : Own} {τ : Nat → Nat × Value} {t : TypeId} {p q r : PV} {u v : Value} {ans ans' : List Ans} {obs : List Prop}
    (hp : SatP (Sat w ω τ) p u) (hq : SatP (Sat w ω τ) q v) (h : stepIndex P t p q ans = some (r, ans', obs)) (ho : Obs obs) : ∃ z, (Instr.index t u v).run P w = .ok z w ∧ SatP (Sat w ω τ) r z := by
  unfold stepIndex at h
  split at h
  · rename_i s kk n e1 e2 e3
    split at h
    · rename_i m rr
      simp only [Option.some.injEq, Prod.mk.injEq] at h
      obtain ⟨rfl, _, rfl⟩ := h
      obtain ⟨h0, h1, _⟩ := ho
      have : u = .string s := PV.leaf_sat e2 hp
      subst this
      rw [PV.int_sat e3 hq]
      rw [Option.map_eq_some_iff] at h1
      obtain ⟨b, hb, hm⟩ := h1
      exact ⟨.int .u8 m, by simp [Instr.index, asIntOf, run_underlying e1, h0, hb, hm], rfl⟩
    · cases h
  · cases h

def stepMin (p q : PV) (ans : List Ans) : Got :=
  match p.int, q.int with
  | some (k, a), some (_, b) => some (.one (.v (.int k (if b < a then b else a))), ans, [])
  | _, _ => none
def stepMax (p q : PV) (ans : List Ans) : Got :=
  match p.int, q.int with
  | some (k, a), some (_, b) => some (.one (.v (.int k (if b > a then b else a))), ans, [])
  | _, _ => none

theorem stepMin_ok {P : Program} {w : World} {ω : Own} {τ : Nat → Nat × Value} {ts : Array TypeId} {ty : TypeId} {p q r : PV} {u v : Value} {ans ans' : List Ans} {obs : List Prop}
    (hp : SatP (Sat w ω τ) p u) (hq : SatP (Sat w ω τ) q v) (h : stepMin p q ans = some (r, ans', obs)) : ∃ z, (Builtin.min_ ts ty #[u, v]).run P w = .ok z w ∧ SatP (Sat w ω τ) r z := by
  unfold stepMin at h
  split at h
  · rename_i k a kk b e1 e2
    simp only [Option.some.injEq, Prod.mk.injEq] at h
    obtain ⟨rfl, _, _⟩ := h
    rw [PV.int_sat e1 hp, PV.int_sat e2 hq]
    exact ⟨_, by simp [Builtin.min_, Builtin.min2], rfl⟩
  · cases h

theorem stepMax_ok {P : Program} {w : World} {ω : Own} {τ : Nat → Nat × Value} {ts : Array TypeId} {ty : TypeId} {p q r : PV} {u v : Value} {ans ans' : List Ans} {obs : List Prop}
    (hp : SatP (Sat w ω τ) p u) (hq : SatP (Sat w ω τ) q v) (h : stepMax p q ans = some (r, ans', obs)) : ∃ z, (Builtin.max_ ts ty #[u, v]).run P w = .ok z w ∧ SatP (Sat w ω τ) r z := by
  unfold stepMax at h
  split at h
  · rename_i k a kk b e1 e2
    simp only [Option.some.injEq, Prod.mk.injEq] at h
    obtain ⟨rfl, _, _⟩ := h
    rw [PV.int_sat e1 hp, PV.int_sat e2 hq]
    exact ⟨_, by simp [Builtin.max_, Builtin.max2], rfl⟩
  · cases h

def stepNil (p : PV) (ans : List Ans) : Got :=
  match p.leaf with
  | some (.ptr id off) => some (.one (.ptr id off), ans, [])
  | some (.ep t k es i j) => some (.one (.ep t k es i j), ans, [])
  | _ => none

def stepBuiltin (P : Program) (st : St) (b : Builtin) (args : List Operand) (ts : List TypeId) (ans : List Ans) : Got :=
  match b, args, ts with
  | .len, [x], [t] => stepLen P t (st.ev x) ans
  | .min, [x, y], _ => stepMin (st.ev x) (st.ev y) ans
  | .max, [x, y], _ => stepMax (st.ev x) (st.ev y) ans
  | _, _, _ => none

/-- All that only computes. -/
def pureStep (P : Program) (st : St) (op : Op) (ans : List Ans) : Got :=
  match op with
  | .move x | .assign x => some (st.ev x, ans, [])
  | .pick c a b => stepPick (st.ev c) (st.ev a) (st.ev b) ans
  | .load t x => stepLoad P st t (st.ev x) ans
  | .nilCheck x => stepNil (st.ev x) ans
  | .binOp op t x y _ => stepBin P op t x y (st.ev x) (st.ev y) ans
  | .unOp op _ x => stepUn op (st.ev x) ans
  | .convert s d x => stepConvert P s d (st.ev x) ans
  | .slice t x lo hi mx => stepSlice P st t (st.ev x) lo hi mx ans
  | .fieldAddr s x f => stepField P s (st.ev x) f ans
  | .field t x f => stepFieldV P t (st.ev x) f ans
  | .indexAddr t x i => stepIndexAddr P t (st.ev x) (st.ev i) ans
  | .index t x i => stepIndex P t (st.ev x) (st.ev i) ans
  | .extract x i => stepExtract (st.ev x) i ans
  | .build t parts => stepBuild P st t parts.toList ans
  | .call ⟨.builtin b, args, ts⟩ => stepBuiltin P st b args.toList ts.toList ans
  | _ => none

theorem run_v {P : Program} {w w' : World} {s : Sem Value} {z : Value} (h : s.run P w = .ok z w') : (do pure (.value (← s)) : Sem Next).run P w = .ok (.value z) w' := by
  rw [Sem.run_bind, h]; rfl

theorem stepBuiltin_ok {P : Program} {w0 w : World} {a : Act} {st : St} {ω : Own} {τ : Nat → Nat × Value} {b : Builtin} {args : Array Operand} {ts : Array TypeId} {ty : TypeId} {consts : Array Bool} {r : PV} {ans ans' : List Ans} {obs : List Prop}
    (hrel : RelAt w0 st a w ω τ) (h : stepBuiltin P st b args.toList ts.toList ans = some (r, ans', obs)) :
    ∃ z, (builtin b ts ty consts (args.map a.eval)).run P w = .ok (.value z) w ∧ SatP (Sat w ω τ) r z := by
  obtain ⟨args⟩ := args
  obtain ⟨ts⟩ := ts
  unfold stepBuiltin at h
  split at h
  · rename_i x t e1 e2
    simp only at e1 e2
    subst e1 e2
    obtain ⟨z, h1, h2⟩ := stepLen_ok (ty := ty) (hrel.ev x) h
    refine ⟨z, run_v (s := Builtin.len_ #[t] ty (Array.map a.eval #[x])) ?_, h2⟩
    simpa using h1
  · rename_i x y e1
    simp only at e1
    subst e1
    obtain ⟨z, h1, h2⟩ := stepMin_ok (P := P) (ts := ⟨ts⟩) (ty := ty) (hrel.ev x) (hrel.ev y) h
    refine ⟨z, run_v (s := Builtin.min_ ⟨ts⟩ ty (Array.map a.eval #[x, y])) ?_, h2⟩
    simpa using h1
  · rename_i x y e1
    simp only at e1
    subst e1
    obtain ⟨z, h1, h2⟩ := stepMax_ok (P := P) (ts := ⟨ts⟩) (ty := ty) (hrel.ev x) (hrel.ev y) h
    refine ⟨z, run_v (s := Builtin.max_ ⟨ts⟩ ty (Array.map a.eval #[x, y])) ?_, h2⟩
    simpa using h1
  · cases h

theorem pureStep_ok {P : Program} {w0 w : World} {a : Act} {st : St} {ω : Own} {τ : Nat → Nat × Value} {o : Oper} {r : PV} {ans ans' : List Ans} {obs : List Prop}
    (hrel : RelAt w0 st a w ω τ) (h : pureStep P st o.op ans = some (r, ans', obs)) (ho : Obs obs) :
    ∃ z, (execOp a.eval o).run P w = .ok (.value z) w ∧ SatP (Sat w ω τ) r z := by
  obtain ⟨dst, op, type, pos, after, guard⟩ := o
  simp only at h
  unfold pureStep at h
  split at h
  · rename_i x
    simp only [Option.some.injEq, Prod.mk.injEq] at h
    obtain ⟨rfl, _, _⟩ := h
    exact ⟨a.eval x, rfl, hrel.ev x⟩
  · rename_i x
    simp only [Option.some.injEq, Prod.mk.injEq] at h
    obtain ⟨rfl, _, _⟩ := h
    exact ⟨a.eval x, rfl, hrel.ev x⟩
  · rename_i c x y
    exact stepPick_ok (hrel.ev c) (hrel.ev x) (hrel.ev y) h ho
  · rename_i t x
    obtain ⟨z, h1, h2⟩ := stepLoad_ok hrel (hrel.ev x) h ho
    exact ⟨z, run_v h1, h2⟩
  · rename_i x
    unfold stepNil at h
    split at h
    · rename_i id off e
      simp only [Option.some.injEq, Prod.mk.injEq] at h
      obtain ⟨rfl, _, _⟩ := h
      have hs := PV.leaf_sat e (hrel.ev x)
      obtain ⟨b, hb, hx⟩ := hs
      exact ⟨_, by simp only [execOp, hx]; rfl, b, hb, rfl⟩
    · rename_i t k es i j e
      simp only [Option.some.injEq, Prod.mk.injEq] at h
      obtain ⟨rfl, _, _⟩ := h
      have hs := PV.leaf_sat e (hrel.ev x)
      have hs' := hs
      obtain ⟨b, off, cap, hx, h1⟩ := hs
      refine ⟨_, by simp only [execOp, hx]; rfl, ?_⟩
      rw [← hx]
      exact hs'
    · cases h
  · rename_i op' t x y ty'
    obtain ⟨z, h1, h2⟩ := stepBin_ok (hrel.ev x) (hrel.ev y) h ho
    exact ⟨z, run_v h1, h2⟩
  · rename_i op' t x
    obtain ⟨z, h1, h2⟩ := stepUn_ok (hrel.ev x) h ho
    exact ⟨z, run_v h1, h2⟩
  · rename_i s d x
    obtain ⟨z, h1, h2⟩ := stepConvert_ok (hrel.ev x) h ho
    exact ⟨z, run_v h1, h2⟩
  · rename_i t x lo hi mx
    obtain ⟨z, h1, h2⟩ := stepSlice_ok hrel (hrel.ev x) h ho
    exact ⟨z, run_v h1, h2⟩
  · rename_i s x f
    obtain ⟨z, h1, h2⟩ := stepField_ok (hrel.ev x) h
    exact ⟨z, run_v h1, h2⟩
  · rename_i t x f
    obtain ⟨z, h1, h2⟩ := stepFieldV_ok (hrel.ev x) h
    exact ⟨z, run_v h1, h2⟩
  · rename_i t x i
    obtain ⟨z, h1, h2⟩ := stepIndexAddr_ok (hrel.ev x) (hrel.ev i) h ho
    exact ⟨z, run_v h1, h2⟩
  · rename_i t x i
    obtain ⟨z, h1, h2⟩ := stepIndex_ok (hrel.ev x) (hrel.ev i) h ho
    exact ⟨z, run_v h1, h2⟩
  · rename_i x i
    obtain ⟨z, h1, h2⟩ := stepExtract_ok (P := P) (hrel.ev x) h
    exact ⟨z, run_v h1, h2⟩
  · rename_i t parts
    obtain ⟨z, h1, h2⟩ := stepBuild_ok hrel h
    exact ⟨z, run_v h1, h2⟩
  · rename_i b args ts
    obtain ⟨z, h1, h2⟩ := stepBuiltin_ok (ty := type) (consts := args.map fun | .const _ => true | _ => false) hrel h
    exact ⟨z, by simp only [execOp, resolve, Sem.run_bind, Sem.run_pure, Result.andThen_ok, invoke]; exact h1, h2⟩
  · cases h
end Go.Sx
