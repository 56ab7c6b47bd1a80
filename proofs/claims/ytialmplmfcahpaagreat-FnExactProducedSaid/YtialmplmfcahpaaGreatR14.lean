/- Regions that draw their order. -/
import Derived.Test.YtialmplmfcahpaaGreatR13
import Derived.Orders
set_option linter.unusedVariables false
set_option linter.unusedSimpArgs false
namespace Go.Sx
open Go.RowKit
abbrev Rng := Nat × Nat
def Rng.has (r : Rng) (s : Nat) : Bool := decide (r.1 ≤ s) && decide (s < r.2)
def Tag.ment (r : Rng) : Tag → Bool
  | .free => false
  | .own s => r.has s
  | .ro s => r.has s
def NC.ment (r : Rng) : NC → Bool
  | .sl t _ _ => t.ment r
  | _ => false
def Leaf.ment (r : Rng) : Leaf → Bool
  | .sl t _ _ => t.ment r
  | .ep t _ _ _ _ => t.ment r
  | .sn t _ _ _ _ _ => r.has t
  | .np t vs => r.has t || vs.any (NC.ment r)
  | _ => false
def AL.ment (r : Rng) : AL → Bool
  | .one l => l.ment r
  | .agg ls => ls.any (Leaf.ment r)
def PV.ment (r : Rng) : PV → Bool
  | .al a => a.ment r
  | .tup as => as.any (AL.ment r)
def qbO (g : Tag → Option Tag) (r : Rng) : Prop := ∀ t : Tag, t.ment r = false → g t = some t
theorem Leaf.re_id {g : Tag → Option Tag} {r : Rng} (hg : qbO g r) {l : Leaf} (h : l.ment r = false) : l.re g (fun _ => true) = l := by
  cases l with
  | sl t k es => simp only [Leaf.ment] at h; simp only [Leaf.re, hg t h]
  | ep t k es i j => simp only [Leaf.ment] at h; simp only [Leaf.re, hg t h]
  | ptr id off => simp [Leaf.re]
  | clo f ids => simp [Leaf.re]
  | sn t i j k es m => simp only [Leaf.ment] at h; simp only [Leaf.re, hg (.own t) h, if_true]
  | np t vs =>
    simp only [Leaf.ment, Bool.or_eq_false_iff] at h
    simp only [Leaf.re, hg (.own t) h.1, if_true]
    congr 1
    conv => rhs; rw [← List.map_id vs]
    refine List.map_congr_left fun c hc => ?_
    have := List.any_eq_false.1 h.2 c hc
    cases c with
    | und => rfl
    | v x => rfl
    | sl t' k es => simp only [NC.re, hg t' (by simpa [NC.ment] using this), id]
  | _ => rfl
theorem qkK {g : Tag → Option Tag} {r : Rng} (hg : qbO g r) {ls : List Leaf} (h : ls.any (Leaf.ment r) = false) : ls.map (Leaf.re g fun _ => true) = ls := by
  conv => rhs; rw [← List.map_id ls]
  refine List.map_congr_left fun l hl => ?_
  rw [List.any_eq_false] at h
  exact Leaf.re_id hg (by simpa using h l hl)
theorem AL.re_id {g : Tag → Option Tag} {r : Rng} (hg : qbO g r) {a : AL} (h : a.ment r = false) : a.map (Leaf.re g fun _ => true) = a := by
  cases a with
  | one l => simp only [AL.ment] at h; simp only [AL.map, Leaf.re_id hg h]
  | agg ls => simp only [AL.ment] at h; simp only [AL.map, qkK hg h]
theorem PV.re_id {g : Tag → Option Tag} {r : Rng} (hg : qbO g r) {p : PV} (h : p.ment r = false) : p.map (Leaf.re g fun _ => true) = p := by
  cases p with
  | al a => simp only [PV.ment] at h; simp only [PV.map, AL.re_id hg h]
  | tup as =>
    simp only [PV.ment] at h
    simp only [PV.map]
    congr 1
    conv => rhs; rw [← List.map_id as]
    refine List.map_congr_left fun a ha => ?_
    rw [List.any_eq_false] at h
    exact AL.re_id hg (by simpa using h a ha)
structure Eff where
  dst : Option Nat
  p : PV
  use : List Nat
  rng : Rng
abbrev Drawn := Option (Eff × (Tag → Option Tag) × List Ans × List Prop)
def qkL : Operand → Option Nat
  | .tmp t => some t
  | _ => none
def apOf (P : Program) (st : St) (d : Nat) (t : TypeId) (x y : Operand) (ans : List Ans) : Drawn :=
  match qcL P t with
  | some (e, k) =>
    match P.info? e with
    | some i =>
      match i.zero, (st.ev x).leaf, x with
      | some z, some (.sl (.own tk) k' es), .tmp s =>
        match apSrc tk k (st.ev y) ans with
        | some (es2, none, ans', obs) =>
          if k' = k ∧ z.cells.size = k ∧ 0 < k ∧ tk < giv then
            some (⟨some d, .one (.sl (.own tk) k (es ++ es2)), [s], (tk, tk + 1)⟩, apTag tk none, ans', ((es.length + es2.length) * i.bytes ≤ 140737488355328) :: (es.length + es2.length ≤ 9223372036854775807) :: obs)
          else none
        | _ => none
      | some z, some (.v (.slice none 0 0)), _ =>
        match apSrc d k ((st.ev y).map (Leaf.re (mvTag d []) fun _ => true)) ans with
        | some (es2, none, ans', obs) =>
          if z.cells.size = k ∧ 0 < k ∧ d < giv then
            some (⟨some d, .one (.sl (.own d) k ([] ++ es2)), [], (d, d + 1)⟩, (fun g => (mvTag d [] g).bind (apTag d none)), ans', (((([] : List (List D)).length) + es2.length) * i.bytes ≤ 140737488355328) :: (([] : List (List D)).length + es2.length ≤ 9223372036854775807) :: obs)
          else none
        | _ => none
      | _, _, _ => none
    | none => none
  | none => none
def cutD (P : Program) (st : St) (d : Nat) (t : TypeId) (x : Operand) (lo hi mx : Option Operand) (ans : List Ans) : Drawn :=
  match qcL P t, (st.ev x).leaf, mx, x with
  | some (_, k), some (.sl (.own s) k' es), none, .tmp s0 =>
    if k = k' ∧ s < giv then
      match qbj st lo, qbj st hi with
      | some l, some h => some (⟨some d, .one (.sl (.own s) k ((es.drop (l.getD 0).toNat).take ((h.getD es.length).toNat - (l.getD 0).toNat))), [s0], (s, s + 1)⟩, qbb s s, ans, [0 ≤ l.getD 0, l.getD 0 ≤ h.getD es.length, h.getD es.length ≤ es.length])
      | _, _ => none
    else none
  | _, _, _, _ => none
theorem qn8 (s : Nat) : qbO (qbb s s) (s, s + 1) := by
  intro t h
  cases t with
  | free => rfl
  | own x =>
    have : x ≠ s := by rintro rfl; simp [Tag.ment, Rng.has] at h
    simp [qbb, this]
  | ro x =>
    have : x ≠ s := by rintro rfl; simp [Tag.ment, Rng.has] at h
    simp [qbb, this]
def dStep (P : Program) (st : St) (o : Oper) (ans : List Ans) : Drawn :=
  match o.dst, o.op with
  | some d, .call ⟨.value (.func f), args, _⟩ =>
    match P.funcs[f]?, args.toList.mapM (fun x => (st.ev x).argD st.boxes), ans with
    | some fn, some ads, .res rs :: r =>
      if (fn.name == "runtime.NumGoroutine") = false ∧ fn.body.isNone = false ∧ qc2 rs = true ∧ 10000 * (d + 1) + 10000 ≤ giv then
        some (⟨some d, resPV (10000 * (d + 1)) rs, [], (10000 * (d + 1), 10000 * (d + 1) + 10000)⟩, qaY (10000 * (d + 1)), r, [Ret P f ads rs])
      else none
    | _, _, _ => none
  | some d, .buildSlice t n parts =>
    match bsOf P st d t n parts.toList with
    | some (k, es, []) => some (⟨some d, .one (.sl (.own d) k es), [], (d, d + 1)⟩, mvTag d [], ans, [])
    | _ => none
  | some d, .call ⟨.builtin .append, ⟨[x, y]⟩, ⟨[t, t']⟩⟩ => if t = t' then apOf P st d t x y ans else none
  | some _, .box _ _ => none
  | some d, .alloc ty =>
    match P.info? ty with
    | some i => match i.zero with
      | some z => if d < giv then some (⟨some d, .one (.np d (z.cells.toList.map .v)), [], (d, d + 1)⟩, mvTag d [], ans, []) else none
      | none => none
    | none => none
  | some _, .makeSlice _ _ _ => none
  | some d, .slice t x lo hi mx => if isOwn ans then cutD P st d t x lo hi mx ans.tail else (qbJ P st (.slice t x lo hi mx) ans).map fun r => (⟨some d, r.1, [], (0, 0)⟩, some, r.2.1, r.2.2)
  | some d, op => (qbJ P st op ans).map fun r => (⟨some d, r.1, [], (0, 0)⟩, some, r.2.1, r.2.2)
  | none, .store ty (.tmp s) y =>
    match (st.env.getD s .und).leaf, ncs (st.ev y), P.info? ty with
    | some (.np t vs), some cs, some i =>
      if cs.length = i.size ∧ cs.length ≤ vs.length then
        some (⟨some s, .one (.np t ((cs ++ vs.drop cs.length).map (NC.re (dropT t)))), [], (t, t + 1)⟩, dropT t, ans, [])
      else none
    | _, _, _ => none
  | none, _ => none
theorem qn9 (s : Nat) : qbO (dropT s) (s, s + 1) := by
  intro t h
  cases t with
  | free => rfl
  | own x =>
    have : x ≠ s := by rintro rfl; simp [Tag.ment, Rng.has] at h
    simp [dropT, this]
  | ro x =>
    have : x ≠ s := by rintro rfl; simp [Tag.ment, Rng.has] at h
    simp [dropT, this]
theorem qoa : NC.re some = id := by funext c; cases c <;> rfl
theorem qob (st : St) (f : Leaf → Leaf) (hf : ∀ x, f (.v x) = .v x) (hu : f .und = .und) (hd : ∀ d, f (.fd d) = .fd d) (x : Operand) : (st.map f).ev x = (st.ev x).map f := by
  cases x with
  | tmp t =>
    simp only [St.ev, St.map]
    rw [List.getD_eq_getElem?_getD, List.getD_eq_getElem?_getD, List.getElem?_map]
    cases st.env[t]? with
    | none => simp [PV.map, AL.map, hu]
    | some p => rfl
  | const v =>
    simp only [St.ev, cval]
    split
    · simp [PV.map, AL.map, hf]
    · simp [PV.map, AL.map, hf]
  | global g => simp [St.ev, PV.map, AL.map, hu]
  | func f' => simp [St.ev, PV.map, AL.map, hd]
theorem Leaf.re_re (g1 g2 : Tag → Option Tag) (h2 : ∀ g t, g2 g = some (.own t) → g = .own t) (l : Leaf) : Leaf.re g2 (fun _ => true) (Leaf.re g1 (fun _ => true) l) = Leaf.re (fun t => (g1 t).bind g2) (fun _ => true) l := by
  cases l with
  | sl t k es => simp only [Leaf.re]; cases g1 t <;> simp [Leaf.re]
  | ep t k es i j => simp only [Leaf.re]; cases g1 t <;> simp [Leaf.re]
  | clo f ids => simp [Leaf.re]
  | sn t i j k es m =>
    simp only [Leaf.re]
    cases e1 : g1 (.own t) with
    | none => simp [Leaf.re]
    | some x =>
      simp only [Option.bind_some]
      cases x with
      | own s =>
        simp only
        by_cases hs : s = t
        · subst hs; simp only [if_true, Leaf.re]
        · rw [if_neg hs]
          simp only [Leaf.re]
          cases e2 : g2 (.own s) with
          | none => rfl
          | some y =>
            cases y with
            | own u =>
              simp only
              by_cases hu : u = t
              · subst hu
                have := h2 _ _ e2
                simp only [Tag.own.injEq] at this
                exact absurd this hs
              · rw [if_neg hu]
            | _ => rfl
      | free =>
        simp only [Leaf.re]
        cases e2 : g2 .free with
        | none => rfl
        | some y =>
          cases y with
          | own u => exact absurd (h2 _ _ e2) (by simp)
          | _ => rfl
      | ro s =>
        simp only [Leaf.re]
        cases e2 : g2 (.ro s) with
        | none => rfl
        | some y =>
          cases y with
          | own u => exact absurd (h2 _ _ e2) (by simp)
          | _ => rfl
  | np t vs =>
    simp only [Leaf.re]
    cases e1 : g1 (.own t) with
    | none => simp [Leaf.re]
    | some x =>
      simp only [Option.bind_some]
      cases x with
      | own s =>
        simp only
        by_cases hs : s = t
        · subst hs
          simp only [if_true, Leaf.re]
          have hcs : (vs.map (NC.re g1)).map (NC.re g2) = vs.map (NC.re fun t => (g1 t).bind g2) := by
            rw [List.map_map]
            refine List.map_congr_left fun c _ => ?_
            cases c with
            | und => rfl
            | v x => rfl
            | sl t' k es =>
              simp only [Function.comp, NC.re]
              cases e3 : g1 t' with
              | none => rfl
              | some t2 => simp only [Option.bind_some, NC.re]
          rw [hcs]
        · rw [if_neg hs]
          simp only [Leaf.re]
          cases e2 : g2 (.own s) with
          | none => rfl
          | some y =>
            cases y with
            | own u =>
              simp only
              by_cases hu : u = t
              · subst hu
                have := h2 _ _ e2
                simp only [Tag.own.injEq] at this
                exact absurd this hs
              · rw [if_neg hu]
            | _ => rfl
      | free =>
        simp only [Leaf.re]
        cases e2 : g2 .free with
        | none => rfl
        | some y =>
          cases y with
          | own u => exact absurd (h2 _ _ e2) (by simp)
          | _ => rfl
      | ro s =>
        simp only [Leaf.re]
        cases e2 : g2 (.ro s) with
        | none => rfl
        | some y =>
          cases y with
          | own u => exact absurd (h2 _ _ e2) (by simp)
          | _ => rfl
  | ptr id off => simp [Leaf.re]
  | _ => rfl
theorem AL.map_map (f g : Leaf → Leaf) (a : AL) : (a.map f).map g = a.map (g ∘ f) := by cases a <;> simp [AL.map]
theorem PV.map_map (f g : Leaf → Leaf) (p : PV) : (p.map f).map g = p.map (g ∘ f) := by
  cases p with
  | al a => simp [PV.map, AL.map_map]
  | tup as => simp only [PV.map, List.map_map]; congr 1; refine List.map_congr_left fun a _ => ?_; simp [AL.map_map]
theorem St.map_map (f g : Leaf → Leaf) (s : St) : (s.map f).map g = s.map (g ∘ f) := by
  simp only [St.map, List.map_map]
  congr 1
  · refine List.map_congr_left fun p _ => ?_
    simp [PV.map_map]
  · refine List.map_congr_left fun x _ => ?_
    simp
theorem qkM (r : Rng) : qbO some r := fun _ _ => rfl
theorem qoc (t : Nat) : qbO (qaY t) (t, t + 10000) := by
  intro g hg
  cases g with
  | free => rfl
  | own s =>
    simp only [Tag.ment, Rng.has, Bool.and_eq_false_iff, decide_eq_false_iff_not] at hg
    simp only [qaY]
    rw [if_neg (by omega)]
  | ro s =>
    simp only [Tag.ment, Rng.has, Bool.and_eq_false_iff, decide_eq_false_iff_not] at hg
    simp only [qaY]
    rw [if_neg (by omega)]
theorem qhZ (t : Nat) : qbO (mvTag t []) (t, t + 1) := by
  intro g hg
  cases g with
  | free => rfl
  | own s =>
    simp only [Tag.ment, Rng.has, Bool.and_eq_false_iff, decide_eq_false_iff_not] at hg
    simp only [mvTag]
    rw [if_neg (by omega)]; rfl
  | ro s =>
    simp only [Tag.ment, Rng.has, Bool.and_eq_false_iff, decide_eq_false_iff_not] at hg
    simp only [mvTag]
    rw [if_neg (by omega)]; rfl
theorem qkN (t : Nat) : qbO (apTag t none) (t, t + 1) := by
  intro g hg
  cases g with
  | free => rfl
  | own s =>
    simp only [Tag.ment, Rng.has, Bool.and_eq_false_iff, decide_eq_false_iff_not] at hg
    simp only [apTag]
    rw [if_neg (by omega), if_neg (by simp)]
  | ro s =>
    simp only [Tag.ment, Rng.has, Bool.and_eq_false_iff, decide_eq_false_iff_not] at hg
    simp only [apTag]
    rw [if_neg (by omega), if_neg (by simp)]
theorem qkO {P : Program} {st : St} {d : Nat} {t : TypeId} {x y : Operand} {ans ans' : List Ans} {e : Eff} {g : Tag → Option Tag} {obs : List Prop} (h : apOf P st d t x y ans = some (e, g, ans', obs)) : qbO g e.rng ∧ e.dst = some d := by
  unfold apOf at h
  split at h
  · split at h
    · split at h
      · split at h
        · split at h
          · simp only [Option.some.injEq, Prod.mk.injEq] at h
            obtain ⟨rfl, rfl, _, _⟩ := h
            exact ⟨qkN _, rfl⟩
          · cases h
        · cases h
      · split at h
        · split at h
          · simp only [Option.some.injEq, Prod.mk.injEq] at h
            obtain ⟨rfl, rfl, _, _⟩ := h
            exact ⟨fun t ht => by simp only [qhZ d t ht, Option.bind_some]; exact qkN d t ht, rfl⟩
          · cases h
        · cases h
      · cases h
    · cases h
  · cases h
theorem qkP {P : Program} {st : St} {o : Oper} {ans ans' : List Ans} {e : Eff} {g : Tag → Option Tag} {obs : List Prop} (h : dStep P st o ans = some (e, g, ans', obs)) :
    qbO g e.rng ∧ ∃ d, e.dst = some d ∧ qbN P st o ans = some (⟨(st.map (Leaf.re g fun _ => true)).env.set d e.p, (st.map (Leaf.re g fun _ => true)).boxes⟩, ans', obs) := by
  obtain ⟨dst, op, type, pos, after, guard⟩ := o
  have hid : ∀ st : St, st.map (Leaf.re some fun _ => true) = st := by
    intro st
    have : (Leaf.re some fun _ => true) = _root_.id := by
      funext l
      cases l <;> simp [Leaf.re, qoa]
    rw [this]
    simp only [St.map]
    have h1 : PV.map _root_.id = _root_.id := by
      funext p
      cases p with
      | al a => cases a <;> simp [PV.map, AL.map]
      | tup as =>
        simp only [PV.map, id]
        congr 1
        have : AL.map _root_.id = _root_.id := by funext a; cases a <;> simp [AL.map]
        rw [this]; simp
    rw [h1]
    simp
  simp only [dStep] at h
  split at h
  · rename_i d f args ts
    split at h
    · rename_i fn ads rs r h1 h2
      split at h
      · rename_i hc
        simp only [Option.some.injEq, Prod.mk.injEq] at h
        obtain ⟨rfl, rfl, rfl, rfl⟩ := h
        refine ⟨qoc _, d, rfl, ?_⟩
        simp only [qbN, qbY, isG, Bool.false_eq_true, if_false, qhW, h1, h2, Option.getD_some]
        rw [if_pos hc]
        rfl
      · cases h
    · cases h
  · rename_i d t n parts
    split at h
    · rename_i k es hb
      simp only [Option.some.injEq, Prod.mk.injEq] at h
      obtain ⟨rfl, rfl, rfl, rfl⟩ := h
      refine ⟨qhZ _, d, rfl, ?_⟩
      simp only [qbN, qbY]
      exact qnQ hb ans
    · cases h
  · rename_i d x y t t'
    split at h
    · rename_i htt
      subst htt
      refine ⟨(qkO h).1, d, (qkO h).2, ?_⟩
      simp only [qbN, qbY, if_true, Sx.stepAppend]
      unfold apOf at h
      split at h
      · rename_i ee k he
        simp only [he]
        split at h
        · rename_i i hi
          simp only [hi]
          split at h
          · rename_i z tk k' es s hz hl
            split at h
            · rename_i es2 a2 o2 hs
              split at h
              · rename_i hc
                obtain ⟨rfl, hc⟩ := hc
                simp only [Option.some.injEq, Prod.mk.injEq] at h
                obtain ⟨rfl, rfl, rfl, rfl⟩ := h
                simp only [apTok, hl, if_true, hz, hs]
                rw [if_pos hc]
                rfl
              · cases h
            · cases h
          · rename_i z _ hz hl
            split at h
            · rename_i es2 a2 o2 hs
              split at h
              · rename_i hc
                simp only [Option.some.injEq, Prod.mk.injEq] at h
                obtain ⟨rfl, rfl, rfl, rfl⟩ := h
                have hev : (st.newTok d []).ev y = (st.ev y).map (Leaf.re (mvTag d []) fun _ => true) := qob st _ (fun _ => rfl) rfl (fun _ => rfl) y
                simp only [apTok, hl, hz, hev, hs]
                rw [if_pos hc]
                have : (st.newTok d []).ap d none = st.map (Leaf.re (fun g => (mvTag d [] g).bind (apTag d none)) fun _ => true) := by
                  simp only [St.newTok, St.ap, St.map_map]
                  congr 1
                  funext l
                  refine Leaf.re_re _ _ (fun g t h => ?_) l
                  cases g with
                  | free => simp [apTag] at h
                  | own s =>
                    simp only [apTag] at h
                    split at h
                    · simp at h
                    · split at h
                      · cases h
                      · simpa using h
                  | ro s =>
                    simp only [apTag] at h
                    split at h
                    · cases h
                    · split at h
                      · cases h
                      · simp at h
                rw [this]
              · cases h
            · cases h
          · cases h
        · cases h
      · cases h
    · cases h
  · cases h
  · rename_i d ty
    split at h
    · rename_i i hi
      split at h
      · rename_i z hz
        split at h
        · rename_i hd
          simp only [Option.some.injEq, Prod.mk.injEq] at h
          obtain ⟨rfl, rfl, rfl, rfl⟩ := h
          refine ⟨qhZ _, d, rfl, ?_⟩
          simp only [qbN, qfM, hi, hz]
          rw [if_pos hd]
          rfl
        · cases h
      · cases h
    · cases h
  · cases h
  · rename_i d t x lo hi mx
    split at h
    · rename_i ho
      unfold cutD at h
      split at h
      · rename_i e k s k' es s0 e1 e2
        split at h
        · rename_i hc
          obtain ⟨rfl, hs⟩ := hc
          split at h
          · rename_i l hh e3 e4
            simp only [Option.some.injEq, Prod.mk.injEq] at h
            obtain ⟨rfl, rfl, rfl, rfl⟩ := h
            refine ⟨qn8 _, d, rfl, ?_⟩
            simp only [qbN, qbY, ho, if_true, stepCut, e1, e2, e3, e4, qbz, hs, true_and]
          · cases h
        · cases h
      · cases h
    · rename_i ho
      rw [Option.map_eq_some_iff] at h
      obtain ⟨⟨r1, r2, r3⟩, h1, h⟩ := h
      simp only [Prod.mk.injEq] at h
      obtain ⟨rfl, rfl, rfl, rfl⟩ := h
      refine ⟨qkM _, d, rfl, ?_⟩
      rw [hid]
      simp only [qbN, qbY]
      rw [if_neg ho, h1]
      rfl
  · rename_i d n1 n2 n3 n4 n5 n6 n7
    rw [Option.map_eq_some_iff] at h
    obtain ⟨⟨r1, r2, r3⟩, h1, h⟩ := h
    simp only [Prod.mk.injEq] at h
    obtain ⟨rfl, rfl, rfl, rfl⟩ := h
    refine ⟨qkM _, d, rfl, ?_⟩
    rw [hid]
    have hD : qbN P st ⟨some d, op, type, pos, after, guard⟩ ans = qbY P st ⟨some d, op, type, pos, after, guard⟩ ans := by
      unfold qbN
      split
      · rename_i e1 e2
        exact (n5 _ e2).elim
      · rename_i e1 e2
        cases e1
      · rfl
    rw [hD]
    unfold qbY
    split
    all_goals first
      | exact (n4 _ _ (by assumption)).elim
      | exact (n5 _ (by assumption)).elim
      | exact (n6 _ _ _ (by assumption)).elim
      | exact (n2 _ _ _ (by assumption)).elim
      | exact (n1 _ _ _ (by assumption)).elim
      | exact (n3 _ _ _ _ (by assumption)).elim
      | exact (n7 _ _ _ _ _ (by assumption)).elim
      | (simp_all; done)
      | (exfalso; rename_i e; subst e; simp [qbJ] at h1)
      | (exfalso; simp_all [qbJ])
  · rename_i ty s y
    split at h
    · rename_i tk vs v i e1 e2 e3
      split at h
      · rename_i hc
        simp only [Option.some.injEq, Prod.mk.injEq] at h
        obtain ⟨rfl, rfl, rfl, rfl⟩ := h
        refine ⟨qn9 _, s, rfl, ?_⟩
        simp only [qbN, qfN, e1, e2, e3]
        rw [if_pos hc]
      · cases h
    · cases h
  · cases h
theorem Rel.weaken {w0 : Base} {st st' : St} {a : Act} {w : World} (h : Rel w0 st a w) (hn : st'.env.length = st.env.length) (hb : st'.boxes = st.boxes)
    (he : ∀ (i : Nat) (p : PV), st'.env[i]? = some p → p = .und ∨ st.env[i]? = some p) : Rel w0 st' a w := by
  obtain ⟨ω, τ, h⟩ := h
  refine ⟨ω, τ, h.defers, h.size.trans hn.symm, h.below, h.owned, h.fixed, h.pinned, fun i p hp => ?_, by rw [hb]; exact h.boxes⟩
  rcases he i p hp with rfl | h2
  · have : i < a.tmps.size := by
      rw [h.size, ← hn]
      exact (List.getElem?_eq_some_iff.1 hp).1
    exact ⟨a.tmps[i], by simp [this], trivial⟩
  · exact h.env i p h2
def Eff.touch (e : Eff) (t : Nat) : Option PV := if e.dst = some t then some e.p else if t ∈ e.use then some .und else none
def qca (env : List PV) : List Nat → List PV
  | s :: us => qca (env.set s .und) us
  | [] => env
theorem qh0 : ∀ (us : List Nat) (env : List PV), (qca env us).length = env.length
  | [], env => rfl
  | s :: us, env => by simp [qca, qh0 us]
theorem qkQ : ∀ (us : List Nat) (env : List PV) (t : Nat), (qca env us)[t]? = (env[t]?).map fun p => if t ∈ us then .und else p
  | [], env, t => by simp [qca]
  | s :: us, env, t => by
    simp only [qca, qkQ us, List.getElem?_set, List.mem_cons]
    by_cases h : s = t
    · subst h
      by_cases hl : s < env.length
      · simp [hl]
      · simp [hl]
    · rw [if_neg h]
      have h' : ¬ t = s := fun e => h e.symm
      simp only [h', false_or]
def Eff.apply (e : Eff) (env : List PV) : List PV :=
  match e.dst with
  | some d => (qca env e.use).set d e.p
  | none => env
theorem Eff.apply_get {e : Eff} (hd : e.dst ≠ none) (env : List PV) (t : Nat) : (e.apply env)[t]? = (env[t]?).map fun p => (e.touch t).getD p := by
  unfold Eff.apply Eff.touch
  split
  · rename_i d hd'
    have hs : ∀ (t : Nat), (qca env e.use)[t]? = (env[t]?).map fun p => if t ∈ e.use then .und else p := qkQ e.use env
    rw [List.getElem?_set, hs t]
    by_cases h : d = t
    · subst h
      by_cases hl : d < env.length
      · have : d < (qca env e.use).length := by rw [qh0]; exact hl
        simp [this, hl, hd']
      · have : ¬ d < (qca env e.use).length := by rw [qh0]; exact hl
        simp [this, hl]
    · rw [if_neg h]
      cases henv : env[t]? with
      | none => simp
      | some p =>
        have hne : ¬ (e.dst = some t) := by rw [hd']; simpa using h
        simp only [Option.map_some, Option.some.injEq, if_neg hne]
        by_cases hu : t ∈ e.use
        · simp [hu]
        · simp [hu]
  · exact absurd ‹_› hd
def lastT (L : Nat → Bool) (t : Nat) : Nat → List Eff → PV → PV
  | _, [], acc => acc
  | k, e :: es, acc => lastT L t (k + 1) es (if L k then (e.touch t).getD acc else acc)
theorem qfR {L L' : Nat → Bool} {t : Nat} : ∀ {es : List Eff} {k : Nat} {acc : PV}, (∀ (j : Nat) (e : Eff), es[j]? = some e → e.touch t ≠ none → L (k + j) = L' (k + j)) → lastT L t k es acc = lastT L' t k es acc
  | [], _, _, _ => rfl
  | e :: es, k, acc, h => by
    simp only [lastT]
    have h0 : (if L k then (e.touch t).getD acc else acc) = (if L' k then (e.touch t).getD acc else acc) := by
      cases ht : e.touch t with
      | none => simp
      | some p => have := h 0 e rfl (by simp [ht]); rw [Nat.add_zero] at this; rw [this]
    rw [h0]
    exact qfR fun j e' hj ht => by have := h (j + 1) e' (by simpa using hj) ht; rwa [show k + (j + 1) = k + 1 + j by omega] at this
theorem qkR {L : Nat → Bool} {t : Nat} {p : PV} : ∀ {es : List Eff} {k i : Nat} {acc : PV} {e : Eff}, es[i]? = some e → e.touch t = some p → L (k + i) = true →
    (∀ (j : Nat) (e' : Eff), i < j → es[j]? = some e' → e'.touch t ≠ none → L (k + j) = false) → lastT L t k es acc = p
  | [], _, _, _, _, h, _, _, _ => by simp at h
  | e0 :: es, k, 0, acc, e, h, ht, hL, hno => by
    simp at h; subst h
    simp only [lastT]
    rw [Nat.add_zero] at hL
    rw [hL, ht]
    simp only [if_true, Option.getD_some]
    have : ∀ (es : List Eff) (k : Nat), (∀ (j : Nat) (e' : Eff), es[j]? = some e' → e'.touch t ≠ none → L (k + j) = false) → lastT L t k es p = p := by
      intro es
      induction es with
      | nil => intro k _; rfl
      | cons e1 es ih =>
        intro k h
        simp only [lastT]
        have h1 : (if L k then (e1.touch t).getD p else p) = p := by
          cases ht : e1.touch t with
          | none => simp
          | some q => have := h 0 e1 rfl (by simp [ht]); rw [Nat.add_zero] at this; simp [this]
        rw [h1]
        exact ih (k + 1) fun j e' hj ht' => by have := h (j + 1) e' (by simpa using hj) ht'; rwa [show k + (j + 1) = k + 1 + j by omega] at this
    exact this es (k + 1) fun j e' hj ht' => by have := hno (j + 1) e' (by omega) (by simpa using hj) ht'; rwa [show k + (j + 1) = k + 1 + j by omega] at this
  | e0 :: es, k, i + 1, acc, e, h, ht, hL, hno => by
    simp only [lastT]
    exact qkR (i := i) (by simpa using h) ht (by rwa [show k + 1 + i = k + (i + 1) by omega]) fun j e' hj hj' ht' => by
      have := hno (j + 1) e' (by omega) (by simpa using hj') ht'
      rwa [show k + (j + 1) = k + 1 + j by omega] at this
def stOf (env0 : List PV) (bs : List (Nat × List Leaf)) (L : Nat → Bool) (es : List Eff) : St := ⟨env0.zipIdx.map fun x => lastT L x.2 0 es x.1, bs⟩
theorem qcO {env0 : List PV} {bs : List (Nat × List Leaf)} {L : Nat → Bool} {es : List Eff} (t : Nat) : (stOf env0 bs L es).env[t]? = (env0[t]?).map fun p => lastT L t 0 es p := by
  simp only [stOf, List.getElem?_map, List.getElem?_zipIdx, Nat.zero_add]
  cases env0[t]? <;> rfl
theorem qfS {env0 : List PV} {bs : List (Nat × List Leaf)} {L : Nat → Bool} {es : List Eff} : (stOf env0 bs L es).env.length = env0.length := by simp [stOf]
def qh1 (ops : Array Oper) (o : Oper) : Option Nat := o.guard.bind fun x => (ops[x.1]?).bind (·.dst)
def reads (ops : Array Oper) (o : Oper) : List Nat := o.op.operands.toList.filterMap qkL ++ (qh1 ops o).toList
def qew (d : Nat) : Eff := ⟨some d, .one (.v undef), [], (0, 0)⟩
def ext (e : Eff) (env : List PV) : Eff :=
  if e.rng.2 ≤ e.rng.1 then e else { e with use := e.use ++ (env.zipIdx.filterMap fun x => if x.1.ment e.rng && !(e.dst == some x.2) then some x.2 else none) }
theorem qfT (e : Eff) (env : List PV) : ∃ u, ext e env = { e with use := u } := by
  unfold ext
  split
  · exact ⟨e.use, rfl⟩
  · exact ⟨_, rfl⟩
def qdq (P : Program) (ops : Array Oper) (gs : List Nat) (bs : List (Nat × List Leaf)) : List Oper → List PV → List Ans → Option (List Eff × List PV × List Ans × List Prop)
  | [], env, ans => some ([], env, ans, [])
  | o :: rest, env, ans =>
    match qcN ops ⟨env, bs⟩ o [] with
    | some (true, _, _, _) =>
      match dStep P ⟨env, bs⟩ o ans with
      | some (e, _, ans1, obs1) =>
        match (match o.dst with | some d => gs.contains d | none => false), e.p.leaf, ans1 with
        | true, some (.sb c), .br b :: r =>
          (qdq P ops gs bs rest (Eff.apply { ext e env with p := .one (.v (.bool b)) } env) r).map fun x => ({ ext e env with p := .one (.v (.bool b)) } :: x.1, x.2.1, x.2.2.1, (c = b) :: (obs1 ++ x.2.2.2))
        | _, _, _ => (qdq P ops gs bs rest ((ext e env).apply env) ans1).map fun x => (ext e env :: x.1, x.2.1, x.2.2.1, obs1 ++ x.2.2.2)
      | none => none
    | some (false, _, _, _) =>
      match o.dst with
      | some d => (qdq P ops gs bs rest ((qew d).apply env) ans).map fun x => (qew d :: x.1, x.2.1, x.2.2.1, x.2.2.2)
      | none => none
    | none => none
def Fact (P : Program) (ops : Array Oper) (bs : List (Nat × List Leaf)) (env : List PV) (o : Oper) (e : Eff) : Prop :=
  (∃ st1 a1 o1, qcN ops ⟨env, bs⟩ o [] = some (false, st1, a1, o1) ∧ ∃ d, o.dst = some d ∧ e = qew d) ∨
  (∃ st1 a1 o1, qcN ops ⟨env, bs⟩ o [] = some (true, st1, a1, o1) ∧ ∃ ans e0 g ans' obs, dStep P ⟨env, bs⟩ o ans = some (e0, g, ans', obs) ∧ Obs obs ∧
    ∃ u, (e = { e0 with use := u } ∨ ∃ c b, e0.p = .one (.sb c) ∧ c = b ∧ e = { e0 with use := u, p := .one (.v (.bool b)) }))
theorem qfU {P : Program} {ops : Array Oper} {gs : List Nat} {bs : List (Nat × List Leaf)} : ∀ {l : List Oper} {env env' : List PV} {ans ans' : List Ans} {es : List Eff} {obs : List Prop},
    qdq P ops gs bs l env ans = some (es, env', ans', obs) → Obs obs →
    es.length = l.length ∧ env' = es.foldl (fun env e => e.apply env) env ∧ ∀ (i : Nat) (o : Oper), l[i]? = some o → ∃ e, es[i]? = some e ∧ Fact P ops bs ((es.take i).foldl (fun env e => e.apply env) env) o e
  | [], env, env', ans, ans', es, obs, h, _ => by
    simp only [qdq, Option.some.injEq, Prod.mk.injEq] at h
    obtain ⟨rfl, rfl, _, _⟩ := h
    exact ⟨rfl, rfl, fun i o ho => by simp at ho⟩
  | o :: rest, env, env', ans, ans', es, obs, h, ho => by
    have fin : ∀ (e : Eff) (es0 : List Eff) (env1 : List PV), (es0.length = rest.length ∧ env1 = es0.foldl (fun env e => e.apply env) (e.apply env) ∧ ∀ (i : Nat) (o : Oper), rest[i]? = some o → ∃ e', es0[i]? = some e' ∧ Fact P ops bs ((es0.take i).foldl (fun env e => e.apply env) (e.apply env)) o e') →
        Fact P ops bs env o e → (e :: es0).length = (o :: rest).length ∧ env1 = (e :: es0).foldl (fun env e => e.apply env) env ∧ ∀ (i : Nat) (o' : Oper), (o :: rest)[i]? = some o' → ∃ e', (e :: es0)[i]? = some e' ∧ Fact P ops bs (((e :: es0).take i).foldl (fun env e => e.apply env) env) o' e' := by
      intro e es0 env1 ⟨h1, h2, h3⟩ hf
      refine ⟨by simp [h1], h2, fun i o' ho' => ?_⟩
      cases i with
      | zero => simp at ho'; subst ho'; exact ⟨e, rfl, hf⟩
      | succ i => exact h3 i o' (by simpa using ho')
    simp only [qdq] at h
    split at h
    · rename_i st1 a1 o1 hw
      split at h
      · rename_i e g ans1 obs1 hd
        split at h
        · rename_i c b r hg hl
          rw [Option.map_eq_some_iff] at h
          obtain ⟨⟨x1, x2, x3, x4⟩, h1, h⟩ := h
          simp only [Prod.mk.injEq] at h
          obtain ⟨rfl, rfl, _, rfl⟩ := h
          have o23 : (c = b) ∧ Obs x4 := ⟨ho.1, (Obs.append ho.2).2⟩
          have o1' := (Obs.append ho.2).1
          refine fin _ _ _ (qfU h1 o23.2) (.inr ⟨_, _, _, hw, _, _, _, _, _, hd, o1', (qfT e env).choose, .inr ⟨c, b, ?_, ?_, ?_⟩⟩)
          · cases hp : e.p with
            | al a =>
              rw [hp] at hl
              cases a with
              | one l => simp only [PV.leaf, Option.some.injEq] at hl; rw [hl]
              | agg ls => cases hl
            | tup as => rw [hp] at hl; cases hl
          · exact o23.1
          · conv => lhs; rw [(qfT e env).choose_spec]
        · rw [Option.map_eq_some_iff] at h
          obtain ⟨⟨x1, x2, x3, x4⟩, h1, h⟩ := h
          simp only [Prod.mk.injEq] at h
          obtain ⟨rfl, rfl, _, rfl⟩ := h
          obtain ⟨o1', o2⟩ := ho.append
          exact fin _ _ _ (qfU h1 o2) (.inr ⟨_, _, _, hw, _, _, _, _, _, hd, o1', (qfT e env).choose, .inl (qfT e env).choose_spec⟩)
      · cases h
    · rename_i st1 a1 o1 hw
      split at h
      · rename_i d hd
        rw [Option.map_eq_some_iff] at h
        obtain ⟨⟨x1, x2, x3, x4⟩, h1, h⟩ := h
        simp only [Prod.mk.injEq] at h
        obtain ⟨rfl, rfl, _, rfl⟩ := h
        exact fin _ _ _ (qfU h1 ho) (.inl ⟨_, _, _, hw, d, hd, rfl⟩)
      · cases h
    · cases h
end Go.Sx
namespace Go.Sx
open Go.RowKit
theorem qkS {st st' : St} {parts : List (Nat × Operand)} (h : ∀ x ∈ parts, st.ev x.2 = st'.ev x.2) : (parts.map fun x => (x.1, st.ev x.2)) = parts.map fun x => (x.1, st'.ev x.2) :=
  List.map_congr_left fun x hx => by rw [h x hx]
theorem qkT {P : Program} {st st' : St} {op : Op} {ans : List Ans} (hb : st.boxes = st'.boxes) (h : ∀ x ∈ op.operands.toList, st.ev x = st'.ev x) : qbJ P st op ans = qbJ P st' op ans := by
  cases op <;> simp only [qbJ, Op.operands, List.mem_cons, List.mem_nil_iff, forall_eq_or_imp, or_false, forall_eq] at h ⊢
  case load t x => simp only [qfA, h, hb]
  case slice t x lo hi mx =>
    have hx : st.ev x = st'.ev x := h x (by simp)
    have ho : ∀ o : Option Operand, (∀ y, o = some y → st.ev y = st'.ev y) → qbj st o = qbj st' o := by
      intro o ho
      cases o with
      | none => rfl
      | some y => simp only [qbj, ho y rfl]
    simp only [qfB, hx]
    rw [ho lo (fun y e => h y (by simp [e])), ho hi (fun y e => h y (by simp [e]))]
  case build t ps =>
    have : (ps.toList.map fun x => (x.1, st.ev x.2)) = ps.toList.map fun x => (x.1, st'.ev x.2) := qkS fun x hx => h x.2 (by simp; exact ⟨x.1, by simpa using hx⟩)
    simp only [qfD, this]
  case call c =>
    obtain ⟨callee, args, ts⟩ := c
    cases callee with
    | value f => rfl
    | invoke r i => rfl
    | builtin b =>
      simp only [Call.operands] at h
      have h' : ∀ x ∈ args.toList, st.ev x = st'.ev x := fun x hx => h x (by simpa using hx)
      simp only
      generalize args.toList = l at h'
      unfold qfF
      split
      · rw [h' _ (by simp)]
      · rw [h' _ (by simp), h' _ (by simp)]
      · rw [h' _ (by simp), h' _ (by simp)]
      · rfl
  case makeFunc fn first captured =>
    have hc : captured.toList.map st.ev = captured.toList.map st'.ev := List.map_congr_left fun x hx => h x (by simp; right; simpa using hx)
    simp only [qfE, hc]
  all_goals simp [h]
theorem qod {P : Program} {st st' : St} {o : Oper} {ans : List Ans} (hb : st.boxes = st'.boxes) (h : ∀ x ∈ o.op.operands.toList, st.ev x = st'.ev x) : dStep P st o ans = dStep P st' o ans := by
  obtain ⟨dst, op, type, pos, after, guard⟩ := o
  simp only at h
  cases dst with
  | none =>
    cases op with
    | store ty x y =>
      cases x with
      | tmp s =>
        have hx : st.ev (.tmp s) = st'.ev (.tmp s) := h (.tmp s) (by simp [Op.operands])
        have hy : st.ev y = st'.ev y := h y (by simp [Op.operands])
        simp only [St.ev] at hx
        simp only [dStep, hx, hy]
      | _ => rfl
    | _ => rfl
  | some d =>
    unfold dStep
    split
    · rename_i f args ts e1 e2
      simp only at e1 e2
      subst e2
      have h' : ∀ x ∈ args.toList, st.ev x = st'.ev x := fun x hx => h x (by simp [Op.operands, Call.operands]; right; simpa using hx)
      have : args.toList.mapM (fun x => (st.ev x).argD st.boxes) = args.toList.mapM (fun x => (st'.ev x).argD st'.boxes) := by
        rw [← hb]
        generalize args.toList = l at h'
        generalize st.boxes = bs
        induction l with
        | nil => rfl
        | cons x l ih => simp only [List.mapM_cons, h' x (by simp), ih fun y hy => h' y (by simp [hy])]
      rw [this]
    · rename_i t n parts e1 e2
      simp only at e1 e2
      subst e2
      have : (parts.toList.map fun x => (x.1, st.ev x.2)) = parts.toList.map fun x => (x.1, st'.ev x.2) := qkS fun x hx => h x.2 (by simp [Op.operands]; exact ⟨x.1, by simpa using hx⟩)
      simp only [bsOf, this]
    · rename_i x y t t' e1 e2
      simp only at e1 e2
      subst e2
      have hx : st.ev x = st'.ev x := h x (by simp [Op.operands, Call.operands])
      have hy : st.ev y = st'.ev y := h y (by simp [Op.operands, Call.operands])
      simp only [apOf, hx, hy]
    · rfl
    · rfl
    · rfl
    · rename_i t x lo hi mx e1 e2
      simp only at e1 e2
      subst e2
      have hx : st.ev x = st'.ev x := h x (by simp [Op.operands])
      have ho : ∀ o : Option Operand, (∀ y, o = some y → st.ev y = st'.ev y) → qbj st o = qbj st' o := by
        intro o ho
        cases o with
        | none => rfl
        | some y => simp only [qbj, ho y rfl]
      rw [qkT hb h]
      simp only [cutD, hx]
      rw [ho lo (fun y e => h y (by simp [Op.operands, e])), ho hi (fun y e => h y (by simp [Op.operands, e]))]
    · rw [qkT hb h]
    · rename_i e1 e2
      cases e1
    · rfl
theorem ev_of {st st' : St} {x : Operand} (h : ∀ t, qkL x = some t → st.env.getD t .und = st'.env.getD t .und) : st.ev x = st'.ev x := by
  cases x with
  | tmp t => simpa [St.ev] using h t rfl
  | _ => rfl
def anc (ms : List Nat) (i j : Nat) : Bool := (ms.getD j 0).testBit i
def qdr (ms : List Nat) : List Edge → Nat
  | [] => 0
  | e :: r => if Region.binds .any e then (2 ^ e.on ||| ms.getD e.on 0) ||| qdr ms r else qdr ms r
def mksGo : List Oper → List Nat → List Nat
  | [], acc => acc
  | o :: r, acc => mksGo r (acc ++ [qdr acc o.after.toList])
theorem qh2 {ms : List Nat} {i : Nat} : ∀ {l : List Edge}, (qdr ms l).testBit i = true → ∃ e ∈ l, Region.binds .any e = true ∧ (i = e.on ∨ anc ms i e.on = true)
  | [], h => by simp [qdr] at h
  | e :: r, h => by
    simp only [qdr] at h
    split at h
    · rename_i hb
      rw [Nat.testBit_or, Nat.testBit_or, Bool.or_eq_true, Bool.or_eq_true, Nat.testBit_two_pow, decide_eq_true_eq] at h
      rcases h with (h | h) | h
      · exact ⟨e, by simp, hb, .inl h.symm⟩
      · exact ⟨e, by simp, hb, .inr h⟩
      · obtain ⟨e', h1, h2⟩ := qh2 h
        exact ⟨e', by simp [h1], h2⟩
    · obtain ⟨e', h1, h2⟩ := qh2 h
      exact ⟨e', by simp [h1], h2⟩
def allAt {α : Type} (f : Nat → α → Bool) : Nat → List α → Bool
  | _, [] => true
  | k, x :: r => f k x && allAt f (k + 1) r
theorem qds {α : Type} {f : Nat → α → Bool} : ∀ {l : List α} {k : Nat}, allAt f k l = true → ∀ (i : Nat) (x : α), l[i]? = some x → f (k + i) x = true
  | [], _, _, i, x, h => by simp at h
  | y :: r, k, h, 0, x, hx => by
    simp only [allAt, Bool.and_eq_true] at h
    simp at hx; subst hx
    exact h.1
  | y :: r, k, h, i + 1, x, hx => by
    simp only [allAt, Bool.and_eq_true] at h
    have := qds h.2 i x (by simpa using hx)
    rwa [show k + 1 + i = k + (i + 1) by omega] at this
def qex (ms : List Nat) (os : List Oper) : Bool :=
  allAt (fun j o => ms.getD j 0 == qdr ms o.after.toList && o.after.toList.all fun e => !Region.binds .any e || decide (e.on < j)) 0 os
theorem qh3 {ms : List Nat} {ops : Array Oper} (h : qex ms ops.toList = true) {j : Nat} {o : Oper} (ho : ops[j]? = some o) : (∀ e ∈ o.after, Region.binds .any e = true → e.on < j) ∧
    ∀ i, anc ms i j = true → ∃ e ∈ o.after, Region.binds .any e = true ∧ (i = e.on ∨ anc ms i e.on = true) := by
  have := qds h j o (by simpa using ho)
  simp only [Nat.zero_add, Bool.and_eq_true, beq_iff_eq, List.all_eq_true, Bool.or_eq_true, Bool.not_eq_true', decide_eq_true_eq] at this
  refine ⟨fun e he hb => (this.2 e (by simpa using he)).resolve_left (by simp [hb]), fun i hi => ?_⟩
  unfold anc at hi
  rw [this.1] at hi
  obtain ⟨e, h1, h2⟩ := qh2 hi
  exact ⟨e, by simpa using h1, h2⟩
def qcP (ops : Array Oper) (listed : Array Bool) : Prop :=
  ∀ (j : Nat) (o : Oper), listed.getD j false = true → ops[j]? = some o → ∀ e ∈ o.after, Region.binds .any e = true → listed.getD e.on false = true
theorem qh4 {listed : Array Bool} {j : Nat} (h : listed.getD j false = true) : j < listed.size := by
  rcases Nat.lt_or_ge j listed.size with h' | h'
  · exact h'
  · simp [Array.getElem?_eq_none h'] at h
theorem qfV {ms : List Nat} {ops : Array Oper} {listed : Array Bool} (h : qex ms ops.toList = true) (hc : qcP ops listed) (hs : listed.size = ops.size) {i : Nat} : ∀ (j : Nat), listed.getD j false = true → anc ms i j = true → listed.getD i false = true := by
  intro j
  induction j using Nat.strongRecOn with
  | ind j ih =>
    intro hj ha
    have hlt : j < ops.size := hs ▸ qh4 hj
    have ho : ops[j]? = some ops[j] := Array.getElem?_eq_getElem hlt
    obtain ⟨h1, h2⟩ := qh3 h ho
    obtain ⟨e, he, hb, he2⟩ := h2 i ha
    have hel := hc j _ hj ho e he hb
    rcases he2 with rfl | he2
    · exact hel
    · exact ih e.on (h1 e he hb) hel he2
theorem qh5 {ms : List Nat} {ops : Array Oper} {listed : Array Bool} (h : qex ms ops.toList = true) (hc : qcP ops listed) (hs : listed.size = ops.size) {i k : Nat} (hi : i ∈ Region.ready .any ops listed) (ha : anc ms k i = true) : listed.getD k false = true := by
  rw [mem_ready] at hi
  obtain ⟨_, o, ho, he⟩ := hi
  obtain ⟨_, h2⟩ := qh3 h ho
  obtain ⟨e, he1, hb, he2⟩ := h2 k ha
  rcases he2 with rfl | he2
  · exact he e he1 hb
  · exact qfV h hc hs _ (he e he1 hb) he2
theorem qcP.ready {ops : Array Oper} {listed : Array Bool} (hc : qcP ops listed) {i : Nat} (hi : i ∈ Region.ready .any ops listed) : qcP ops (listed.setIfInBounds i true) := by
  intro j o hj ho e he hb
  rw [mem_ready] at hi
  obtain ⟨_, oi, hoi, hie⟩ := hi
  by_cases hij : i = j
  · subst hij
    rw [hoi] at ho
    cases ho
    exact getD_set_true (hie e he hb)
  · rw [getD_set_ne false hij] at hj
    exact getD_set_true (hc j o hj ho e he hb)
theorem qoe {ms : List Nat} {ops : Array Oper} {listed : Array Bool} (h : qex ms ops.toList = true) (hs : listed.size = ops.size) (hr : Region.ready .any ops listed = []) : ∀ j, j < ops.size → listed.getD j false = true := by
  intro j
  induction j using Nat.strongRecOn with
  | ind j ih =>
    intro hlt
    have ho : ops[j]? = some ops[j] := Array.getElem?_eq_getElem hlt
    obtain ⟨h1, _⟩ := qh3 h ho
    cases hl : listed.getD j false with
    | true => rfl
    | false =>
      have : j ∈ Region.ready .any ops listed := by
        rw [mem_ready]
        refine ⟨?_, _, ho, fun e he hb => ih e.on (h1 e he hb) (Nat.lt_trans (h1 e he hb) hlt)⟩
        have hlt' : j < listed.size := hs ▸ hlt
        simp [Array.getElem?_eq_getElem hlt'] at hl ⊢
        exact hl
      rw [hr] at this
      cases this
def qfc (e : Eff) : List Nat := e.dst.toList ++ e.use
def qfW (ops : Array Oper) (o : Oper) (e : Eff) : List Nat := qfc e ++ reads ops o
def ordd (ms : List Nat) (i k : Nat) : Bool := if k < i then anc ms k i else anc ms i k
def qh6 (ops : Array Oper) (ms : List Nat) (es : List Eff) : Bool :=
  allAt (fun i x => allAt (fun k e => k == i || ordd ms i k || !((qfc e).any fun t => (qfW ops x.1 x.2).contains t)) 0 es) 0 (ops.toList.zip es)
def qey (ms : List Nat) (es : List Eff) (i lo : Nat) (s : Option Nat) : Bool := es.zipIdx.any fun y => decide (lo ≤ y.2) && anc ms y.2 i && (match s with | some t => y.1.use.contains t | none => false)
theorem qkU {ms : List Nat} {es : List Eff} {i lo : Nat} {s : Option Nat} (h : qey ms es i lo s = true) : ∃ m y t, es[m]? = some y ∧ lo ≤ m ∧ anc ms m i = true ∧ t ∈ y.use ∧ s = some t := by
  unfold qey at h
  rw [List.any_eq_true] at h
  obtain ⟨⟨y, m⟩, h1, h2⟩ := h
  rw [List.mem_zipIdx_iff_getElem?] at h1
  simp only [Bool.and_eq_true, decide_eq_true_eq] at h2
  cases s with
  | none => simp at h2
  | some t => exact ⟨m, y, t, h1, h2.1.1, h2.1.2, by simpa using h2.2, rfl⟩
def qh7 (ms : List Nat) (es : List Eff) (env0 : List PV) (bs : List (Nat × List Leaf)) : Bool :=
  allAt (fun i e => decide (e.rng.2 ≤ e.rng.1) ||
    (allAt (fun j x => j == i || anc ms i j || !x.p.ment e.rng || (match x.dst with | some t => e.use.contains t | none => false) || x.dst == e.dst || qey ms es i (j + 1) x.dst) 0 es &&
     allAt (fun t p => !p.ment e.rng || e.use.contains t || qey ms es i 0 (some t)) 0 env0 &&
     bs.all fun x => !x.2.any (Leaf.ment e.rng))) 0 es
theorem qkV {e : Eff} {t : Nat} (h : e.touch t ≠ none) : t ∈ qfc e := by
  unfold Eff.touch at h
  split at h
  · rename_i hd; simp [qfc, hd]
  · split at h
    · rename_i hu; simp [qfc, hu]
    · exact absurd rfl h
theorem qkW {ops : Array Oper} {ms : List Nat} {es : List Eff} (h : qh6 ops ms es = true) {i k : Nat} {o : Oper} {ei ek : Eff} (ho : ops[i]? = some o) (hi : es[i]? = some ei) (hk : es[k]? = some ek) (hne : k ≠ i) {t : Nat}
    (ht : ek.touch t ≠ none) (hn : t ∈ qfW ops o ei) : ordd ms i k = true := by
  have h1 := qds h i (o, ei) (by
    rw [List.getElem?_zip_eq_some]
    exact ⟨by simpa using ho, hi⟩)
  have h2 := qds h1 k ek hk
  simp only [Nat.zero_add, Bool.or_eq_true, beq_iff_eq, Bool.not_eq_true'] at h2
  rcases h2 with (h2 | h2) | h2
  · exact absurd h2 hne
  · exact h2
  · rw [List.any_eq_false] at h2
    have := h2 t (qkV ht)
    simp only [List.contains_iff_mem] at this
    exact absurd hn this
theorem Tag.ment_empty {r : Rng} (h : r.2 ≤ r.1) (t : Tag) : t.ment r = false := by
  cases t with
  | free => rfl
  | own s => simp only [Tag.ment, Rng.has, Bool.and_eq_false_iff, decide_eq_false_iff_not]; omega
  | ro s => simp only [Tag.ment, Rng.has, Bool.and_eq_false_iff, decide_eq_false_iff_not]; omega
theorem Leaf.ment_empty {r : Rng} (h : r.2 ≤ r.1) (l : Leaf) : l.ment r = false := by
  cases l with
  | sn t i j k es m => exact Tag.ment_empty h (.own t)
  | np t vs =>
    simp only [Leaf.ment, Bool.or_eq_false_iff]
    refine ⟨Tag.ment_empty h (.own t), List.any_eq_false.2 fun c _ => ?_⟩
    cases c with
    | und => simp [NC.ment]
    | v x => simp [NC.ment]
    | sl t k es => simp [NC.ment, Tag.ment_empty h]
  | _ => simp [Leaf.ment, Tag.ment_empty h]
theorem AL.ment_empty {r : Rng} (h : r.2 ≤ r.1) (a : AL) : a.ment r = false := by
  cases a <;> simp [AL.ment, Leaf.ment_empty h]
theorem PV.ment_empty {r : Rng} (h : r.2 ≤ r.1) (p : PV) : p.ment r = false := by
  cases p <;> simp [PV.ment, AL.ment_empty h]
theorem qof {ms : List Nat} {es : List Eff} {env0 : List PV} {bs : List (Nat × List Leaf)} (h : qh7 ms es env0 bs = true) {i : Nat} {e : Eff} (hi : es[i]? = some e) :
    (∀ (j : Nat) (x : Eff), es[j]? = some x → j ≠ i → anc ms i j = true ∨ x.p.ment e.rng = false ∨ (∃ t, x.dst = some t ∧ t ∈ e.use) ∨ x.dst = e.dst ∨ qey ms es i (j + 1) x.dst = true) ∧
    (∀ (t : Nat) (p : PV), env0[t]? = some p → (p.ment e.rng = false ∨ t ∈ e.use) ∨ qey ms es i 0 (some t) = true) ∧ ∀ x ∈ bs, x.2.any (Leaf.ment e.rng) = false := by
  have h1 := qds h i e hi
  simp only [Bool.or_eq_true, decide_eq_true_eq] at h1
  rcases h1 with h1 | h1
  · refine ⟨fun j x _ _ => .inr (.inl (PV.ment_empty h1 _)), fun t p _ => .inl (.inl (PV.ment_empty h1 _)), fun x _ => ?_⟩
    rw [List.any_eq_false]
    intro l _
    simp [Leaf.ment_empty h1]
  · simp only [Bool.and_eq_true] at h1
    obtain ⟨⟨h1, h2⟩, h3⟩ := h1
    refine ⟨fun j x hx hne => ?_, fun t p hp => ?_, fun x hx => ?_⟩
    · have := qds h1 j x hx
      simp only [Nat.zero_add, Bool.or_eq_true, beq_iff_eq, Bool.not_eq_true', Bool.and_eq_true] at this
      rcases this with ((((h4 | h4) | h4) | h4) | h4) | h4
      rotate_left 4
      · exact .inr (.inr (.inr (.inl h4)))
      · exact .inr (.inr (.inr (.inr h4)))
      · exact absurd h4 hne
      · exact .inl h4
      · exact .inr (.inl h4)
      · refine .inr (.inr (.inl ?_))
        split at h4
        · rename_i t ht
          exact ⟨t, ht, by simpa using h4⟩
        · cases h4
    · have := qds h2 t p hp
      simp only [Nat.zero_add, Bool.or_eq_true, Bool.not_eq_true', List.contains_iff_mem] at this
      exact this
    · rw [List.all_eq_true] at h3
      simpa using h3 x hx
theorem qkX {L : Nat → Bool} {t : Nat} : ∀ {es : List Eff} {k : Nat} {acc : PV}, (lastT L t k es acc = acc ∧ ∀ (m : Nat) (y : Eff), es[m]? = some y → L (k + m) = true → y.touch t = none) ∨ lastT L t k es acc = .und ∨
    ∃ j e, es[j]? = some e ∧ L (k + j) = true ∧ e.dst = some t ∧ lastT L t k es acc = e.p ∧ ∀ (m : Nat) (y : Eff), es[m]? = some y → j < m → L (k + m) = true → y.touch t = none
  | [], _, _ => .inl ⟨rfl, fun m y h => by simp at h⟩
  | e :: es, k, acc => by
    simp only [lastT]
    rcases qkX (L := L) (t := t) (es := es) (k := k + 1) (acc := if L k then (e.touch t).getD acc else acc) with ⟨h, hn⟩ | h | ⟨j, e', h1, h2, h3, h4, h5⟩
    · have tail : ∀ (m : Nat) (y : Eff), (e :: es)[m + 1]? = some y → L (k + (m + 1)) = true → y.touch t = none := fun m y hy hl => hn m y (by simpa using hy) (by rwa [show k + 1 + m = k + (m + 1) by omega])
      by_cases hL : L k = true
      · rw [if_pos hL] at h ⊢
        unfold Eff.touch at h ⊢
        by_cases hd : e.dst = some t
        · rw [if_pos hd] at h ⊢
          refine .inr (.inr ⟨0, e, rfl, hL, hd, h, fun m y hy hm hl => ?_⟩)
          cases m with
          | zero => omega
          | succ m => exact tail m y hy hl
        · rw [if_neg hd] at h ⊢
          by_cases hu : t ∈ e.use
          · rw [if_pos hu] at h ⊢
            exact .inr (.inl h)
          · rw [if_neg hu] at h ⊢
            refine .inl ⟨h, fun m y hy hl => ?_⟩
            cases m with
            | zero =>
              simp only [List.getElem?_cons_zero, Option.some.injEq] at hy
              subst hy
              rw [if_neg hd, if_neg hu]
            | succ m => exact tail m y hy hl
      · rw [if_neg hL] at h ⊢
        refine .inl ⟨h, fun m y hy hl => ?_⟩
        cases m with
        | zero => exact absurd hl (by simpa using hL)
        | succ m => exact tail m y hy hl
    · exact .inr (.inl h)
    · refine .inr (.inr ⟨j + 1, e', by simpa using h1, by rwa [show k + (j + 1) = k + 1 + j by omega], h3, h4, fun m y hy hm hl => ?_⟩)
      cases m with
      | zero => omega
      | succ m => exact h5 m y (by simpa using hy) (by omega) (by rwa [show k + 1 + m = k + (m + 1) by omega])
theorem qkY {t : Nat} : ∀ {es : List Eff} {k i : Nat} {acc : PV} {e : Eff}, es[i]? = some e →
    lastT (fun j => decide (j < k + i + 1)) t k es acc = (e.touch t).getD (lastT (fun j => decide (j < k + i)) t k es acc)
  | [], _, _, _, _, h => by simp at h
  | e0 :: es, k, 0, acc, e, h => by
    simp at h; subst h
    have hno : ∀ (es : List Eff) (k m : Nat) (acc : PV), m ≤ k → lastT (fun j => decide (j < m)) t k es acc = acc := by
      intro es
      induction es with
      | nil => intro k m acc _; rfl
      | cons e1 es ih =>
        intro k m acc hm
        simp only [lastT]
        rw [if_neg (by simpa using hm)]
        exact ih (k + 1) m acc (by omega)
    simp only [lastT]
    rw [if_pos (by simp), if_neg (by simp), hno _ _ _ _ (by omega), hno _ _ _ _ (by omega)]
  | e0 :: es, k, i + 1, acc, e, h => by
    simp only [lastT]
    rw [if_pos (by simp; omega), if_pos (by simp)]
    have := qkY (t := t) (es := es) (k := k + 1) (i := i) (acc := (e0.touch t).getD acc) (by simpa using h)
    rw [show k + 1 + i + 1 = k + (i + 1) + 1 by omega, show k + 1 + i = k + (i + 1) by omega] at this
    exact this
theorem qh8 {env0 : List PV} {bs : List (Nat × List Leaf)} {es : List Eff} (hd : ∀ (i : Nat) (e : Eff), es[i]? = some e → e.dst ≠ none) : ∀ (i : Nat), i ≤ es.length →
    (es.take i).foldl (fun env e => e.apply env) env0 = (stOf env0 bs (fun j => decide (j < i)) es).env
  | 0, _ => by
    apply List.ext_getElem?
    intro t
    rw [qcO]
    have hno : ∀ (es : List Eff) (k : Nat) (acc : PV), lastT (fun j => decide (j < 0)) t k es acc = acc := by
      intro es
      induction es with
      | nil => intro k acc; rfl
      | cons e1 es ih => intro k acc; simp only [lastT]; rw [if_neg (by simp)]; exact ih _ _
    cases h : env0[t]? with
    | none => simp [h]
    | some p => have := hno es 0 p; simp only [h, List.take_zero, List.foldl_nil, Option.map_some, this]
  | i + 1, hi => by
    have hlt : i < es.length := by omega
    have he : es[i]? = some es[i] := List.getElem?_eq_getElem hlt
    have ih := qh8 (env0 := env0) (bs := bs) hd i (by omega)
    rw [List.take_add_one, he, Option.toList_some, List.foldl_append, ih]
    simp only [List.foldl_cons, List.foldl_nil]
    apply List.ext_getElem?
    intro t
    rw [Eff.apply_get (hd i _ he), qcO, qcO]
    cases h : env0[t]? with
    | none => rfl
    | some p =>
      have := qkY (t := t) (es := es) (k := 0) (i := i) (acc := p) he
      simp only [Nat.zero_add] at this
      simp [this]
theorem qkZ {ops : Array Oper} {st st' : St} {o : Oper} {st1 : St} {a1 : List Ans} {o1 : List Prop} {b : Bool} (h : qcN ops st o [] = some (b, st1, a1, o1)) (hs : ∀ t ∈ reads ops o, st.env.getD t .und = st'.env.getD t .und) :
    qcN ops st' o [] = some (b, st', [], []) := by
  unfold qcN at h ⊢
  cases hg : o.guard with
  | none => rw [hg] at h; simp only [Option.some.injEq, Prod.mk.injEq] at h; simp [← h.1]
  | some g =>
    obtain ⟨j, want⟩ := g
    rw [hg] at h
    simp only at h ⊢
    cases hd : (ops[j]?).bind (·.dst) with
    | none => rw [hd] at h; cases h
    | some s =>
      rw [hd] at h
      simp only at h ⊢
      have : s ∈ reads ops o := by simp [reads, qh1, hg, hd]
      rw [hs s this] at h
      split at h
      · rename_i e; simp only [Option.some.injEq, Prod.mk.injEq] at h; simp [e, ← h.1]
      · rename_i e; simp only [Option.some.injEq, Prod.mk.injEq] at h; simp [e, ← h.1]
      · cases h
      · cases h
theorem Fact.dst {P : Program} {ops : Array Oper} {bs : List (Nat × List Leaf)} {env : List PV} {o : Oper} {e : Eff} (h : Fact P ops bs env o e) : e.dst ≠ none := by
  rcases h with ⟨_, _, _, _, d, hd, rfl⟩ | ⟨_, _, _, _, ans, e0, g, ans', obs, h1, _, h2⟩
  · simp [qew]
  · obtain ⟨_, d, h4, _⟩ := qkP h1
    obtain ⟨u, h2⟩ := h2
    rcases h2 with rfl | ⟨c, b, _, _, rfl⟩
    · simp only [h4]; simp
    · simp only [h4]; simp
theorem Rel.bool {w0 : Base} {env : List PV} {bs : List (Nat × List Leaf)} {d : Nat} {c : Bool} {a : Act} {w : World} (h : Rel w0 ⟨env.set d (.one (.sb c)), bs⟩ a w) : Rel w0 ⟨env.set d (.one (.v (.bool c))), bs⟩ a w := by
  obtain ⟨ω, τ, h⟩ := h
  refine ⟨ω, τ, h.defers, by have := h.size; simpa using this, h.below, h.owned, h.fixed, h.pinned, fun i p hp => ?_, h.boxes⟩
  by_cases hi : d = i
  · subst hi
    rw [List.getElem?_set] at hp
    split at hp
    · split at hp
      · rename_i hl
        simp only [Option.some.injEq] at hp
        subst hp
        obtain ⟨v, h1, h2⟩ := h.env d (.one (.sb c)) (by simp [hl])
        exact ⟨v, h1, h2⟩
      · cases hp
    · rename_i hne; exact absurd rfl hne
  · exact h.env i p (by simpa [List.getElem?_set, hi] using hp)
section
variable {P : Program} {ops : Array Oper} {bs : List (Nat × List Leaf)} {env0 : List PV} {es : List Eff} {ms : List Nat}
def lst (listed : Array Bool) (j : Nat) : Bool := listed.getD j false
structure Drawable (P : Program) (ops : Array Oper) (bs : List (Nat × List Leaf)) (env0 : List PV) (es : List Eff) (ms : List Nat) : Prop where
  len : es.length = ops.size
  facts : ∀ (i : Nat) (o : Oper), ops[i]? = some o → ∃ e, es[i]? = some e ∧ Fact P ops bs (stOf env0 bs (fun j => decide (j < i)) es).env o e
  masks : qex ms ops.toList = true
  ord : qh6 ops ms es = true
  tok : qh7 ms es env0 bs = true
theorem Drawable.same (h : Drawable P ops bs env0 es ms) {listed : Array Bool} (hc : qcP ops listed) (hs : listed.size = ops.size) {i : Nat} (hi : i ∈ Region.ready .any ops listed) {o : Oper} (ho : ops[i]? = some o) {e : Eff} (he : es[i]? = some e)
    {t : Nat} (ht : t ∈ qfW ops o e) : (stOf env0 bs (lst listed) es).env.getD t .und = (stOf env0 bs (fun j => decide (j < i)) es).env.getD t .und := by
  rw [List.getD_eq_getElem?_getD, List.getD_eq_getElem?_getD, qcO, qcO]
  have hun : listed.getD i false = false := by
    have h0 := (mem_ready.1 hi).1
    have hlt : i < listed.size := hs ▸ (Array.getElem?_eq_some_iff.1 ho).1
    simp [Array.getElem?_eq_getElem hlt] at h0 ⊢
    exact h0
  cases henv : env0[t]? with
  | none => rfl
  | some p =>
    simp only [Option.map_some, Option.getD_some]
    refine qfR fun j ej hj htj => ?_
    rw [Nat.zero_add]
    by_cases hji : j = i
    · subst hji; simp [lst, hun]
    · have := qkW h.ord ho he hj hji htj ht
      unfold ordd at this
      split at this
      · rename_i hlt
        have := qh5 h.masks hc hs hi this
        simp [lst, hlt, this]
      · rename_i hlt
        cases hlj : listed.getD j false with
        | false => simp [lst, hlj, hlt]
        | true => have := qfV h.masks hc hs j hlj this; rw [hun] at this; cases this
theorem qh9 {listed : Array Bool} {i : Nat} (hlt : i < listed.size) (j : Nat) : lst (listed.setIfInBounds i true) j = (if j = i then true else lst listed j) := by
  unfold lst
  split
  · rename_i h; subst h; simp [hlt]
  · rename_i h; rw [getD_set_ne false (Ne.symm h)]
theorem Drawable.keep (h : Drawable P ops bs env0 es ms) {listed : Array Bool} {i : Nat} (hlt : i < listed.size) {e : Eff} (he : es[i]? = some e) {t : Nat} (ht : e.touch t = none) (p : PV) :
    lastT (lst (listed.setIfInBounds i true)) t 0 es p = lastT (lst listed) t 0 es p := by
  refine qfR fun j ej hj htj => ?_
  rw [Nat.zero_add, qh9 hlt, if_neg]
  rintro rfl
  rw [he] at hj; cases hj
  exact htj ht
theorem Drawable.last (h : Drawable P ops bs env0 es ms) {listed : Array Bool} (hc : qcP ops listed) (hs : listed.size = ops.size) {i : Nat} (hi : i ∈ Region.ready .any ops listed) {o : Oper} (ho : ops[i]? = some o) {e : Eff} (he : es[i]? = some e)
    {t : Nat} {q : PV} (ht : e.touch t = some q) (p : PV) : lastT (lst (listed.setIfInBounds i true)) t 0 es p = q := by
  have hlt : i < listed.size := hs ▸ (Array.getElem?_eq_some_iff.1 ho).1
  have hun : listed.getD i false = false := by
    have h0 := (mem_ready.1 hi).1
    simp [Array.getElem?_eq_getElem hlt] at h0 ⊢
    exact h0
  refine qkR he ht (by rw [Nat.zero_add, qh9 hlt, if_pos rfl]) fun j ej hj hje htj => ?_
  rw [Nat.zero_add, qh9 hlt, if_neg (by omega)]
  have := qkW h.ord ho he hje (by omega) htj (t := t) (by
    unfold qfW
    exact List.mem_append_left _ (qkV (by rw [ht]; simp)))
  unfold ordd at this
  rw [if_neg (by omega)] at this
  cases hlj : lst listed j with
  | false => rfl
  | true => have := qfV h.masks hc hs j hlj this; rw [hun] at this; cases this
theorem Drawable.step (h : Drawable P ops bs env0 es ms) {listed : Array Bool} (hc : qcP ops listed) (hs : listed.size = ops.size) {i : Nat} (hi : i ∈ Region.ready .any ops listed) {w0 : Base} {w : World} {a : Act}
    (hr : Rel w0 (stOf env0 bs (lst listed) es) a w) {Q : Exit → Act → World → Prop} {K : Act → World → Prop} (hK : ∀ a' w', Rel w0 (stOf env0 bs (lst (listed.setIfInBounds i true)) es) a' w' → K a' w') : wpOp P ops Q i K a w := by
  obtain ⟨h0, o, ho, hedges⟩ := mem_ready.1 hi
  obtain ⟨e, he, hf⟩ := h.facts i o ho
  have hlt : i < listed.size := hs ▸ (Array.getElem?_eq_some_iff.1 ho).1
  have hsame := fun t ht => h.same hc hs hi ho he (t := t) ht
  have hreads : ∀ t ∈ reads ops o, (stOf env0 bs (fun j => decide (j < i)) es).env.getD t .und = (stOf env0 bs (lst listed) es).env.getD t .und := fun t ht => (hsame t (List.mem_append_right _ ht)).symm
  unfold wpOp
  rw [ho]
  simp only
  rcases hf with ⟨st1, a1, o1, hw, d, hd, rfl⟩ | ⟨st1, a1, o1, hw, ans, e0, g, ans', obs, hds, hobs, hee⟩
  · have hw' := qkZ hw (st' := stOf env0 bs (lst listed) es) hreads
    obtain ⟨hwant, _⟩ := qfQ hw' trivial hr
    rw [if_neg (by rw [hwant]; simp)]
    refine hK _ _ ((qkI hr).weaken ?_ ?_ ?_)
    · simp [qfS, qfb, hd]
    · simp [stOf, qfb, hd]
    · intro t p hp
      rw [qcO, Option.map_eq_some_iff] at hp
      obtain ⟨p0, hp0, rfl⟩ := hp
      right
      simp only [qfb, hd]
      rw [List.getElem?_set]
      by_cases hdt : d = t
      · subst hdt
        have : d < env0.length := (List.getElem?_eq_some_iff.1 hp0).1
        rw [if_pos rfl, if_pos (by rw [qfS]; exact this), h.last hc hs hi ho he (q := .one (.v undef)) (by simp [Eff.touch, qew])]
      · rw [if_neg hdt, qcO, hp0, Option.map_some, h.keep hlt he (by simp [Eff.touch, qew, hdt])]
  · have hw' := qkZ hw (st' := stOf env0 bs (lst listed) es) hreads
    obtain ⟨hwant, _⟩ := qfQ hw' trivial hr
    rw [if_pos hwant]
    left
    have hcong : dStep P (stOf env0 bs (lst listed) es) o ans = some (e0, g, ans', obs) := by
      rw [← hds]
      refine qod rfl fun x hx => ev_of fun t ht => (hreads t ?_).symm
      unfold reads
      exact List.mem_append_left _ (List.mem_filterMap.2 ⟨x, hx, ht⟩)
    obtain ⟨hg, d, hdst, hop⟩ := qkP hcong
    obtain ⟨u, hee⟩ := hee
    have hrng : e.rng = e0.rng ∧ e.dst = e0.dst := by
      rcases hee with rfl | ⟨c, b, _, _, rfl⟩
      · exact ⟨rfl, rfl⟩
      · exact ⟨rfl, rfl⟩
    obtain ⟨hrng, hdst'⟩ := hrng
    rw [← hrng] at hg
    obtain ⟨htok1, htok2, htok3⟩ := qof h.tok he
    have hboxes : ((stOf env0 bs (lst listed) es).map (Leaf.re g fun _ => true)).boxes = bs := by
      simp only [St.map, stOf]
      conv => rhs; rw [← List.map_id bs]
      refine List.map_congr_left fun x hx => ?_
      obtain ⟨x1, x2⟩ := x
      simp only [id, qkK hg (htok3 _ hx)]
    refine qn6 hop hobs hr fun a' w' hr' => hK _ _ ?_
    rw [hboxes] at hr'
    have hr2 : Rel w0 ⟨((stOf env0 bs (lst listed) es).map (Leaf.re g fun _ => true)).env.set d e.p, bs⟩ a' w' := by
      rcases hee with rfl | ⟨c, b, hp, hcb, rfl⟩
      · exact hr'
      · rw [hp] at hr'
        subst hcb
        exact hr'.bool
    refine hr2.weaken (by simp [qfS, St.map]) rfl ?_
    intro t p hp
    rw [qcO, Option.map_eq_some_iff] at hp
    obtain ⟨p0, hp0, rfl⟩ := hp
    rw [List.getElem?_set]
    have hed : e.dst = some d := hdst'.trans hdst
    by_cases hdt : d = t
    · subst hdt
      right
      have : d < env0.length := (List.getElem?_eq_some_iff.1 hp0).1
      rw [if_pos rfl, if_pos (by simp [St.map, qfS, this]), h.last hc hs hi ho he (q := e.p) (by simp [Eff.touch, hed])]
    · rw [if_neg hdt]
      by_cases hut : t ∈ e.use
      · left
        exact h.last hc hs hi ho he (by simp [Eff.touch, hed, hdt, hut]) p0
      · have hkeep := h.keep hlt he (t := t) (by simp [Eff.touch, hed, hdt, hut]) p0
        rw [hkeep]
        have hment : lastT (lst listed) t 0 es p0 = .und ∨ (lastT (lst listed) t 0 es p0).ment e.rng = false := by
          rcases qkX (L := lst listed) (t := t) (es := es) (k := 0) (acc := p0) with ⟨h1, hno⟩ | h1 | ⟨j, ej, h1, h2, h3, h4, hno⟩
          · right; rw [h1]
            rcases htok2 t p0 hp0 with h5 | h5
            · exact h5.resolve_right hut
            · obtain ⟨m, y, t', hm, _, ha, hu, ht⟩ := qkU h5
              cases ht
              have := hno m y hm (by rw [Nat.zero_add]; exact qh5 h.masks hc hs hi ha)
              unfold Eff.touch at this
              rw [if_pos hu] at this
              split at this <;> cases this
          · exact .inl h1
          · right
            rw [h4]
            rw [Nat.zero_add] at h2
            have hun : listed.getD i false = false := by
              simp [Array.getElem?_eq_getElem hlt] at h0 ⊢
              exact h0
            have hji : j ≠ i := by rintro rfl; unfold lst at h2; rw [hun] at h2; cases h2
            rcases htok1 j ej h1 hji with h5 | h5 | h5 | h5 | h5
            rotate_left 3
            · rw [h3, hed] at h5
              exact absurd (Option.some.inj h5).symm hdt
            · obtain ⟨m, y, t', hm, hlo, ha, hu, ht⟩ := qkU h5
              rw [h3] at ht
              cases ht
              have := hno m y hm (by omega) (by rw [Nat.zero_add]; exact qh5 h.masks hc hs hi ha)
              unfold Eff.touch at this
              rw [if_pos hu] at this
              split at this <;> cases this
            · have := qfV h.masks hc hs j h2 h5
              rw [hun] at this; cases this
            · exact h5
            · obtain ⟨t', h6, h7⟩ := h5
              rw [h3] at h6
              cases h6
              exact absurd h7 hut
        rcases hment with h1 | h1
        · exact .inl h1
        · right
          simp only [St.map, List.getElem?_map]
          rw [qcO, hp0]
          simp only [Option.map_some, PV.re_id hg h1]
theorem Drawable.any (h : Drawable P ops bs env0 es ms) {w0 : Base} {Q : Exit → Act → World → Prop} (hQ : ∀ a w, Rel w0 (stOf env0 bs (fun j => decide (j < es.length)) es) a w → Q .normal a w) : ∀ (fuel : Nat) {listed : Array Bool}, qcP ops listed → listed.size = ops.size → listed.count false ≤ fuel →
    ∀ {a : Act} {w : World}, Rel w0 (stOf env0 bs (lst listed) es) a w → wpAny P .any ops Q fuel listed a w := by
  have fin : ∀ {listed : Array Bool}, listed.size = ops.size → Region.ready .any ops listed = [] → ∀ {a : Act} {w : World}, Rel w0 (stOf env0 bs (lst listed) es) a w → Q .normal a w := by
    intro listed hs hr a w hrel
    have hall := qoe h.masks hs hr
    refine hQ a w ?_
    have : stOf env0 bs (lst listed) es = stOf env0 bs (fun j => decide (j < es.length)) es := by
      unfold stOf
      congr 1
      refine List.map_congr_left fun x _ => ?_
      refine qfR fun j e hj _ => ?_
      have hlt : j < es.length := (List.getElem?_eq_some_iff.1 hj).1
      rw [Nat.zero_add]
      simp only [lst, hall j (h.len ▸ hlt), hlt, decide_true]
    rwa [← this]
  intro fuel
  induction fuel with
  | zero =>
    intro listed hc hs hcnt a w hr
    have hnil : Region.ready .any ops listed = [] := by
      rw [List.eq_nil_iff_forall_not_mem]
      intro j hj
      have h0 := (mem_ready.1 hj)
      obtain ⟨h1, o, ho, _⟩ := h0
      have hlt : j < listed.size := hs ▸ (Array.getElem?_eq_some_iff.1 ho).1
      have hf : listed[j] = false := by simpa [Array.getElem?_eq_getElem hlt] using h1
      have : 0 < listed.count false := by
        rw [Array.count_pos_iff]
        exact hf ▸ Array.getElem_mem hlt
      omega
    exact ⟨hnil, fin hs hnil hr⟩
  | succ fuel ih =>
    intro listed hc hs hcnt a w hr
    refine ⟨fun hnil => fin hs hnil hr, fun i hi => ?_⟩
    refine h.step hc hs hi hr fun a' w' hr' => ih (hc.ready hi) (by simpa using hs) ?_ hr'
    obtain ⟨h1, o, ho, _⟩ := mem_ready.1 hi
    have hlt : i < listed.size := hs ▸ (Array.getElem?_eq_some_iff.1 ho).1
    have hf : listed[i] = false := by simpa [Array.getElem?_eq_getElem hlt] using h1
    have : (listed.setIfInBounds i true).count false = listed.count false - 1 := by
      have e : listed.setIfInBounds i true = listed.set i true hlt := by unfold Array.setIfInBounds; rw [dif_pos hlt]
      rw [e, Array.count_set]
      simp [hf]
    omega
end
theorem Sat.drew {w : World} {ω : Own} {τ : Nat → Nat × Value} {l : Leaf} {y : Value} (h : Sat w ω τ l y) : Sat w.drew ω τ l y := by
  have hf : ∀ {R : List (Nat × Nat) → Owner → Prop} {d : D} {y : Value}, Rep w ω R d y → Rep w.drew ω R d y := fun h => h.frame fun _ _ _ hq => ⟨hq, rfl⟩
  cases l with
  | sl t k es => exact ⟨hf h.1, h.2⟩
  | ep t k es i j =>
    obtain ⟨b, off, cap, h1, h2, h3, h4⟩ := h
    exact ⟨b, off, cap, h1, h2, hf h3, h4⟩
  | rp ds off =>
    obtain ⟨b, h1, h2⟩ := h
    exact ⟨b, h1, hf h2⟩
  | fd d => exact hf h
  | sn t i j k es m =>
    obtain ⟨u, hu, h1, hm⟩ := h
    exact ⟨u, hu, hf h1, hm⟩
  | np t vs =>
    obtain ⟨b, ty, arr, h1, h2, h3, hn, hv⟩ := h
    refine ⟨b, ty, arr, h1, h2, h3, hn, fun j c hc => ?_⟩
    obtain ⟨u, hu1, hu2⟩ := hv j c hc
    refine ⟨u, hu1, ?_⟩
    cases c with
    | und => exact trivial
    | v x => exact hu2
    | sl t k es => exact ⟨hf hu2.1, hu2.2⟩
  | _ => exact h
theorem Rel.drew {w0 : Base} {st : St} {a : Act} {w : World} (h : Rel w0 st a w) : Rel w0 st a w.drew := by
  obtain ⟨ω, τ, h⟩ := h
  have hi : ∀ p : PV, p.map _root_.id = p := by
    intro p
    cases p with
    | al a => cases a <;> simp [PV.map, AL.map]
    | tup as =>
      simp only [PV.map]
      congr 1
      have : AL.map _root_.id = _root_.id := by funext a; cases a <;> simp [AL.map]
      rw [this]; simp
  refine ⟨ω, τ, h.defers, h.size, h.below.next (Blw.refl _ _).drew, h.owned, h.fixed, h.pinned, fun i p hp => ?_, fun id ls hl => ?_⟩
  · obtain ⟨v, h1, h2⟩ := h.env i p hp
    have := SatP.map (S' := Sat w.drew ω τ) (f := _root_.id) (fun l v hs => Sat.drew hs) h2
    rw [hi] at this
    exact ⟨v, h1, this⟩
  · obtain ⟨b, arr, ty, h1, h2, h3, h4⟩ := h.boxes id ls hl
    have := SatL.map (S' := Sat w.drew ω τ) (f := _root_.id) (fun l v hs => Sat.drew hs) h4
    rw [List.map_id] at this
    exact ⟨b, arr, ty, h1, h2, h3, this⟩
def qfX : Nat → List PV → List Nat
  | _, [] => []
  | i, p :: r => match p.leaf with | some (.np t _) => if t = i then i :: qfX (i + 1) r else qfX (i + 1) r | _ => qfX (i + 1) r
def qia (P : Program) (ops : Array Oper) (st : St) (ans : List Ans) : Stepped :=
  let gs := ops.toList.filterMap (qh1 ops)
  let ms := mksGo ops.toList []
  match qdq P ops gs st.boxes ops.toList st.env ans with
  | some (es, env', ans', obs) =>
    if P.follows .mixedOrders && qex ms ops.toList && qh6 ops ms es && qh7 ms es st.env st.boxes then
      (qe9 (qfX 0 env') ⟨env', st.boxes⟩).map fun st2 => (st2, ans', obs)
    else none
  | none => none
theorem qog {P : Program} {ops : Array Oper} {st st' : St} {ans ans' : List Ans} {obs : List Prop} (h : qia P ops st ans = some (st', ans', obs)) (ho : Obs obs) {w0 : Base} {a : Act} {w : World} (hr : Rel w0 st a w) {id : Nat}
    {Q : Exit → Act → World → Prop} (hQ : ∀ a' w', Rel w0 st' a' w' → Q .normal a' w') : (Code.region id ops true).wp P Q a w := by
  unfold qia at h
  simp only at h
  split at h
  · rename_i es env' ans1 obs1 hrun
    split at h
    · rename_i hc
      rw [Option.map_eq_some_iff] at h
      obtain ⟨st2, hnp, h⟩ := h
      simp only [Prod.mk.injEq] at h
      obtain ⟨rfl, _, rfl⟩ := h
      simp only [Bool.and_eq_true] at hc
      obtain ⟨⟨⟨hm, hmask⟩, hord⟩, htok⟩ := hc
      obtain ⟨hlen, hend, hfacts⟩ := qfU hrun ho
      have hd : ∀ (i : Nat) (e : Eff), es[i]? = some e → e.dst ≠ none := by
        intro i e hi
        have hlt : i < ops.toList.length := hlen ▸ (List.getElem?_eq_some_iff.1 hi).1
        obtain ⟨e', h1, h2⟩ := hfacts i _ (List.getElem?_eq_getElem hlt)
        rw [hi] at h1; cases h1
        exact h2.dst
      have hD : Drawable P ops st.boxes st.env es (mksGo ops.toList []) := by
        refine ⟨by simpa using hlen, fun i o hi => ?_, hmask, hord, htok⟩
        obtain ⟨e, h1, h2⟩ := hfacts i o (by simpa using hi)
        refine ⟨e, h1, ?_⟩
        rwa [qh8 (bs := st.boxes) hd i (by have := (List.getElem?_eq_some_iff.1 h1).1; omega)] at h2
      refine wp_region_any hm (hD.any (w0 := w0) ?_ ops.size ?_ (by simp) ?_ ?_)
      · intro a' w' hr'
        refine hQ a' w' (qkB ?_ hnp)
        have := qh8 (env0 := st.env) (bs := st.boxes) hd es.length (Nat.le_refl _)
        rw [List.take_length, ← hend] at this
        rw [this]
        exact hr'
      · intro j o hj
        have := qh4 hj
        simp at this
        simp [this] at hj
      · simp [Array.count_replicate]
      · have : stOf st.env st.boxes (lst (Array.replicate ops.size false)) es = st := by
          have hno : ∀ (es : List Eff) (t k : Nat) (acc : PV), lastT (lst (Array.replicate ops.size false)) t k es acc = acc := by
            intro es
            induction es with
            | nil => intro t k acc; rfl
            | cons e1 es ih =>
              intro t k acc
              simp only [lastT]
              rw [if_neg, ih]
              unfold lst
              intro hc
              have := qh4 hc
              simp at this
              simp [this] at hc
          obtain ⟨env, bs⟩ := st
          unfold stOf
          congr 1
          simp only [hno]
          apply List.ext_getElem?
          intro t
          simp
        rw [this]
        exact hr.drew
    · cases h
  · cases h
end Go.Sx
