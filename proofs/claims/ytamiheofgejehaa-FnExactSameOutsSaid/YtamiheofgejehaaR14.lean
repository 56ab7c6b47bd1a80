/- Regions that draw their order. -/
import Derived.Test.YtamiheofgejehaaR13
import Derived.Orders
set_option linter.unusedVariables false
set_option linter.unusedSimpArgs false
namespace Go.Sx
open Go.RowKit

/-- A range of tokens. -/
abbrev Rng := Nat × Nat
def Rng.has (r : Rng) (s : Nat) : Bool := decide (r.1 ≤ s) && decide (s < r.2)

def Tag.ment (r : Rng) : Tag → Bool
  | .free => false
  | .own s => r.has s
  | .ro s => r.has s
def Leaf.ment (r : Rng) : Leaf → Bool
  | .sl t _ _ => t.ment r
  | .ep t _ _ _ _ => t.ment r
  | _ => false
def AL.ment (r : Rng) : AL → Bool
  | .one l => l.ment r
  | .agg ls => ls.any (Leaf.ment r)
def PV.ment (r : Rng) : PV → Bool
  | .al a => a.ment r
  | .tup as => as.any (AL.ment r)

def KeepsBut (g : Tag → Option Tag) (r : Rng) : Prop := ∀ t : Tag, t.ment r = false → g t = some t

theorem Leaf.re_id {g : Tag → Option Tag} {r : Rng} (hg : KeepsBut g r) {l : Leaf} (h : l.ment r = false) : l.re g (fun _ => true) = l := by
  cases l with
  | sl t k es => simp only [Leaf.ment] at h; simp only [Leaf.re, hg t h]
  | ep t k es i j => simp only [Leaf.ment] at h; simp only [Leaf.re, hg t h]
  | ptr id off => simp [Leaf.re]
  | _ => rfl

theorem re_map_id {g : Tag → Option Tag} {r : Rng} (hg : KeepsBut g r) {ls : List Leaf} (h : ls.any (Leaf.ment r) = false) : ls.map (Leaf.re g fun _ => true) = ls := by
  conv => rhs; rw [← List.map_id ls]
  refine List.map_congr_left fun l hl => ?_
  rw [List.any_eq_false] at h
  exact Leaf.re_id hg (by simpa using h l hl)

theorem AL.re_id {g : Tag → Option Tag} {r : Rng} (hg : KeepsBut g r) {a : AL} (h : a.ment r = false) : a.map (Leaf.re g fun _ => true) = a := by
  cases a with
  | one l => simp only [AL.ment] at h; simp only [AL.map, Leaf.re_id hg h]
  | agg ls => simp only [AL.ment] at h; simp only [AL.map, re_map_id hg h]

theorem PV.re_id {g : Tag → Option Tag} {r : Rng} (hg : KeepsBut g r) {p : PV} (h : p.ment r = false) : p.map (Leaf.re g fun _ => true) = p := by
  cases p with
  | al a => simp only [PV.ment] at h; simp only [PV.map, AL.re_id hg h]
  | tup as =>
    simp only [PV.ment] at h
    simp only [PV.map]
    congr 1
    conv => rhs; rw [← List.map_id as]
    refine List.map_congr_left fun a ha => ?_
    rw [List.any_eq_false] at h
    exact AL.re_id hg (by simpa using h a ha)

/-- What one operation does in a region that draws: the value of its slot, a slot that it uses up, the tokens that it touches. -/
structure Eff where
  dst : Option Nat
  p : PV
  use : Option Nat
  rng : Rng

abbrev Drawn := Option (Eff × (Tag → Option Tag) × List Ans × List Prop)

def opSlot : Operand → Option Nat
  | .tmp t => some t
  | _ => none

def apOf (P : Program) (st : St) (d : Nat) (t : TypeId) (x y : Operand) (ans : List Ans) : Drawn :=
  match elemOf P t with
  | some (e, k) =>
    match P.info? e with
    | some i =>
      match i.zero, (st.ev x).leaf, x with
      | some z, some (.sl (.own tk) k' es), .tmp s =>
        match apSrc tk k (st.ev y) ans with
        | some (es2, none, ans', obs) =>
          if k' = k ∧ z.cells.size = k ∧ 0 < k then
            some (⟨some d, .one (.sl (.own tk) k (es ++ es2)), some s, (tk, tk + 1)⟩, apTag tk none, ans', ((es.length + es2.length) * i.bytes ≤ 140737488355328) :: (es.length + es2.length ≤ 9223372036854775807) :: obs)
          else none
        | _ => none
      | some z, some (.v (.slice none 0 0)), _ =>
        match apSrc d k ((st.ev y).map (Leaf.re (mvTag d []) fun _ => true)) ans with
        | some (es2, none, ans', obs) =>
          if z.cells.size = k ∧ 0 < k then
            some (⟨some d, .one (.sl (.own d) k ([] ++ es2)), none, (d, d + 1)⟩, (fun g => (mvTag d [] g).bind (apTag d none)), ans', (((([] : List (List D)).length) + es2.length) * i.bytes ≤ 140737488355328) :: (([] : List (List D)).length + es2.length ≤ 9223372036854775807) :: obs)
          else none
        | _ => none
      | _, _, _ => none
    | none => none
  | none => none

def dStep (P : Program) (st : St) (o : Oper) (ans : List Ans) : Drawn :=
  match o.dst, o.op with
  | some d, .call ⟨.value (.func f), args, _⟩ =>
    match P.funcs[f]?, args.toList.mapM (fun x => (st.ev x).argD), ans with
    | some fn, some ads, .res rs :: r =>
      if (fn.name == "runtime.NumGoroutine") = false ∧ fn.body.isNone = false ∧ resFits rs = true then
        some (⟨some d, resPV (10000 * (d + 1)) rs, none, (10000 * (d + 1), 10000 * (d + 1) + 10000)⟩, calTag (10000 * (d + 1)), r, [Ret P f ads rs])
      else none
    | _, _, _ => none
  | some d, .buildSlice t n parts =>
    match bsOf P st d t n parts.toList with
    | some (k, es, []) => some (⟨some d, .one (.sl (.own d) k es), none, (d, d + 1)⟩, mvTag d [], ans, [])
    | _ => none
  | some d, .call ⟨.builtin .append, ⟨[x, y]⟩, ⟨[t, t']⟩⟩ => if t = t' then apOf P st d t x y ans else none
  | some _, .box _ _ => none
  | some _, .alloc _ => none
  | some _, .makeSlice _ _ _ => none
  | some d, op => (pureStep P st op ans).map fun r => (⟨some d, r.1, none, (0, 0)⟩, some, r.2.1, r.2.2)
  | none, _ => none

theorem ev_map (st : St) (f : Leaf → Leaf) (hf : ∀ x, f (.v x) = .v x) (hu : f .und = .und) (x : Operand) : (st.map f).ev x = (st.ev x).map f := by
  cases x with
  | tmp t =>
    simp only [St.ev, St.map]
    rw [List.getD_eq_getElem?_getD, List.getD_eq_getElem?_getD, List.getElem?_map]
    cases st.env[t]? with
    | none => simp [PV.map, AL.map, hu]
    | some p => rfl
  | const v =>
    simp only [St.ev, cval]
    split
    · simp [PV.map, AL.map, hf]
    · simp [PV.map, AL.map, hf]
  | global g => simp [St.ev, PV.map, AL.map, hu]
  | func f' => simp [St.ev, PV.map, AL.map, hu]

theorem Leaf.re_re (g1 g2 : Tag → Option Tag) (l : Leaf) : Leaf.re g2 (fun _ => true) (Leaf.re g1 (fun _ => true) l) = Leaf.re (fun t => (g1 t).bind g2) (fun _ => true) l := by
  cases l with
  | sl t k es => simp only [Leaf.re]; cases g1 t <;> simp [Leaf.re]
  | ep t k es i j => simp only [Leaf.re]; cases g1 t <;> simp [Leaf.re]
  | ptr id off => simp [Leaf.re]
  | _ => rfl

theorem AL.map_map (f g : Leaf → Leaf) (a : AL) : (a.map f).map g = a.map (g ∘ f) := by cases a <;> simp [AL.map]
theorem PV.map_map (f g : Leaf → Leaf) (p : PV) : (p.map f).map g = p.map (g ∘ f) := by
  cases p with
  | al a => simp [PV.map, AL.map_map]
  | tup as => simp only [PV.map, List.map_map]; congr 1; refine List.map_congr_left fun a _ => ?_; simp [AL.map_map]
theorem St.map_map (f g : Leaf → Leaf) (s : St) : (s.map f).map g = s.map (g ∘ f) := by
  simp only [St.map, List.map_map]
  congr 1
  · refine List.map_congr_left fun p _ => ?_
    simp [PV.map_map]
  · refine List.map_congr_left fun x _ => ?_
    simp

theorem keeps_some (r : Rng) : KeepsBut some r := fun _ _ => rfl
theorem keeps_cal (t : Nat) : KeepsBut (calTag t) (t, t + 10000) := by
  intro g hg
  cases g with
  | free => rfl
  | own s =>
    simp only [Tag.ment, Rng.has, Bool.and_eq_false_iff, decide_eq_false_iff_not] at hg
    simp only [calTag]
    rw [if_neg (by omega)]
  | ro s =>
    simp only [Tag.ment, Rng.has, Bool.and_eq_false_iff, decide_eq_false_iff_not] at hg
    simp only [calTag]
    rw [if_neg (by omega)]
theorem keeps_mv (t : Nat) : KeepsBut (mvTag t []) (t, t + 1) := by
  intro g hg
  cases g with
  | free => rfl
  | own s =>
    simp only [Tag.ment, Rng.has, Bool.and_eq_false_iff, decide_eq_false_iff_not] at hg
    simp only [mvTag]
    rw [if_neg (by omega)]; rfl
  | ro s =>
    simp only [Tag.ment, Rng.has, Bool.and_eq_false_iff, decide_eq_false_iff_not] at hg
    simp only [mvTag]
    rw [if_neg (by omega)]; rfl
theorem keeps_ap (t : Nat) : KeepsBut (apTag t none) (t, t + 1) := by
  intro g hg
  cases g with
  | free => rfl
  | own s =>
    simp only [Tag.ment, Rng.has, Bool.and_eq_false_iff, decide_eq_false_iff_not] at hg
    simp only [apTag]
    rw [if_neg (by omega), if_neg (by simp)]
  | ro s =>
    simp only [Tag.ment, Rng.has, Bool.and_eq_false_iff, decide_eq_false_iff_not] at hg
    simp only [apTag]
    rw [if_neg (by omega), if_neg (by simp)]

theorem apOf_keeps {P : Program} {st : St} {d : Nat} {t : TypeId} {x y : Operand} {ans ans' : List Ans} {e : Eff} {g : Tag → Option Tag} {obs : List Prop} (h : apOf P st d t x y ans = some (e, g, ans', obs)) : KeepsBut g e.rng ∧ e.dst = some d := by
  unfold apOf at h
  split at h
  · split at h
    · split at h
      · split at h
        · split at h
          · simp only [Option.some.injEq, Prod.mk.injEq] at h
            obtain ⟨rfl, rfl, _, _⟩ := h
            exact ⟨keeps_ap _, rfl⟩
          · cases h
        · cases h
      · split at h
        · split at h
          · simp only [Option.some.injEq, Prod.mk.injEq] at h
            obtain ⟨rfl, rfl, _, _⟩ := h
            exact ⟨fun t ht => by simp only [keeps_mv d t ht, Option.bind_some]; exact keeps_ap d t ht, rfl⟩
          · cases h
        · cases h
      · cases h
    · cases h
  · cases h

/-- Such a step is a step. -/
theorem dStep_op {P : Program} {st : St} {o : Oper} {ans ans' : List Ans} {e : Eff} {g : Tag → Option Tag} {obs : List Prop} (h : dStep P st o ans = some (e, g, ans', obs)) :
    KeepsBut g e.rng ∧ e.dst = o.dst ∧ ∃ d, o.dst = some d ∧ opStep P st o ans = some (⟨(st.map (Leaf.re g fun _ => true)).env.set d e.p, (st.map (Leaf.re g fun _ => true)).boxes⟩, ans', obs) := by
  obtain ⟨dst, op, type, pos, after, guard⟩ := o
  have hid : ∀ st : St, st.map (Leaf.re some fun _ => true) = st := by
    intro st
    have : (Leaf.re some fun _ => true) = _root_.id := by
      funext l
      cases l <;> simp [Leaf.re]
    rw [this]
    simp only [St.map]
    have h1 : PV.map _root_.id = _root_.id := by
      funext p
      cases p with
      | al a => cases a <;> simp [PV.map, AL.map]
      | tup as =>
        simp only [PV.map, id]
        congr 1
        have : AL.map _root_.id = _root_.id := by funext a; cases a <;> simp [AL.map]
        rw [this]; simp
    rw [h1]
    simp
  simp only [dStep] at h
  split at h
  · rename_i d f args ts
    split at h
    · rename_i fn ads rs r h1 h2
      split at h
      · rename_i hc
        simp only [Option.some.injEq, Prod.mk.injEq] at h
        obtain ⟨rfl, rfl, rfl, rfl⟩ := h
        refine ⟨keeps_cal _, rfl, d, rfl, ?_⟩
        simp only [opStep, stepCall, h1, h2]
        rw [if_pos hc]
        rfl
      · cases h
    · cases h
  · rename_i d t n parts
    split at h
    · rename_i k es hb
      simp only [Option.some.injEq, Prod.mk.injEq] at h
      obtain ⟨rfl, rfl, rfl, rfl⟩ := h
      refine ⟨keeps_mv _, rfl, d, rfl, ?_⟩
      simp only [opStep]
      exact bsOf_step hb ans
    · cases h
  · rename_i d x y t t'
    split at h
    · rename_i htt
      subst htt
      refine ⟨(apOf_keeps h).1, (apOf_keeps h).2, d, rfl, ?_⟩
      simp only [opStep, if_true, Sx.stepAppend]
      unfold apOf at h
      split at h
      · rename_i ee k he
        simp only [he]
        split at h
        · rename_i i hi
          simp only [hi]
          split at h
          · rename_i z tk k' es s hz hl
            split at h
            · rename_i es2 a2 o2 hs
              split at h
              · rename_i hc
                obtain ⟨rfl, hc⟩ := hc
                simp only [Option.some.injEq, Prod.mk.injEq] at h
                obtain ⟨rfl, rfl, rfl, rfl⟩ := h
                simp only [apTok, hl, if_true, hz, hs]
                rw [if_pos hc]
                rfl
              · cases h
            · cases h
          · rename_i z _ hz hl
            split at h
            · rename_i es2 a2 o2 hs
              split at h
              · rename_i hc
                simp only [Option.some.injEq, Prod.mk.injEq] at h
                obtain ⟨rfl, rfl, rfl, rfl⟩ := h
                have hev : (st.newTok d []).ev y = (st.ev y).map (Leaf.re (mvTag d []) fun _ => true) := ev_map st _ (fun _ => rfl) rfl y
                simp only [apTok, hl, hz, hev, hs]
                rw [if_pos hc]
                have : (st.newTok d []).ap d none = st.map (Leaf.re (fun g => (mvTag d [] g).bind (apTag d none)) fun _ => true) := by
                  simp only [St.newTok, St.ap, St.map_map]
                  congr 1
                  funext l
                  exact Leaf.re_re _ _ l
                rw [this]
              · cases h
            · cases h
          · cases h
        · cases h
      · cases h
    · cases h
  · cases h
  · cases h
  · cases h
  · rename_i d n1 n2 n3 n4 n5 n6
    rw [Option.map_eq_some_iff] at h
    obtain ⟨⟨r1, r2, r3⟩, h1, h⟩ := h
    simp only [Prod.mk.injEq] at h
    obtain ⟨rfl, rfl, rfl, rfl⟩ := h
    refine ⟨keeps_some _, rfl, d, rfl, ?_⟩
    rw [hid]
    unfold opStep
    split
    all_goals first
      | exact (n4 _ _ (by assumption)).elim
      | exact (n5 _ (by assumption)).elim
      | exact (n6 _ _ _ (by assumption)).elim
      | exact (n2 _ _ _ (by assumption)).elim
      | exact (n1 _ _ _ (by assumption)).elim
      | exact (n3 _ _ _ _ (by assumption)).elim
      | simp_all
  · cases h

theorem Rel.weaken {w0 : World} {st st' : St} {a : Act} {w : World} (h : Rel w0 st a w) (hn : st'.env.length = st.env.length) (hb : st'.boxes = st.boxes)
    (he : ∀ (i : Nat) (p : PV), st'.env[i]? = some p → p = .und ∨ st.env[i]? = some p) : Rel w0 st' a w := by
  obtain ⟨ω, τ, h⟩ := h
  refine ⟨ω, τ, h.defers, h.size.trans hn.symm, h.below, h.owned, fun i p hp => ?_, by rw [hb]; exact h.boxes⟩
  rcases he i p hp with rfl | h2
  · have : i < a.tmps.size := by
      rw [h.size, ← hn]
      exact (List.getElem?_eq_some_iff.1 hp).1
    exact ⟨a.tmps[i], by simp [this], trivial⟩
  · exact h.env i p h2

/-- What an operation does to a slot. -/
def Eff.touch (e : Eff) (t : Nat) : Option PV := if e.dst = some t then some e.p else if e.use = some t then some .und else none

def setUse (env : List PV) : Option Nat → List PV
  | some s => env.set s .und
  | none => env

def Eff.apply (e : Eff) (env : List PV) : List PV :=
  match e.dst with
  | some d => (setUse env e.use).set d e.p
  | none => env

theorem Eff.apply_length (e : Eff) (env : List PV) : (e.apply env).length = env.length := by
  unfold Eff.apply
  split
  · cases e.use <;> simp [setUse]
  · rfl

theorem Eff.apply_get {e : Eff} (hd : e.dst ≠ none) (env : List PV) (t : Nat) : (e.apply env)[t]? = (env[t]?).map fun p => (e.touch t).getD p := by
  unfold Eff.apply Eff.touch
  split
  · rename_i d hd'
    have hs : ∀ (t : Nat), (setUse env e.use)[t]? = (env[t]?).map fun p => if e.use = some t then .und else p := by
      intro t
      cases hu : e.use with
      | none => simp [setUse]
      | some s =>
        simp only [setUse, List.getElem?_set, Option.some.injEq]
        by_cases h : s = t
        · subst h
          by_cases hl : s < env.length
          · simp [hl]
          · simp [hl]
        · simp [h]
    rw [List.getElem?_set, hs t]
    by_cases h : d = t
    · subst h
      by_cases hl : d < env.length
      · have : d < (setUse env e.use).length := by cases e.use <;> simpa [setUse] using hl
        simp [this, hl, hd']
      · have : ¬ d < (setUse env e.use).length := by cases e.use <;> simpa [setUse] using hl
        simp [this, hl]
    · rw [if_neg h]
      cases henv : env[t]? with
      | none => simp
      | some p =>
        have hne : ¬ (e.dst = some t) := by rw [hd']; simpa using h
        simp only [Option.map_some, Option.some.injEq, if_neg hne]
        by_cases hu : e.use = some t
        · simp [hu]
        · simp [hu]
  · exact absurd ‹_› hd

/-- The slots after those operations that have come up. -/
def lastT (L : Nat → Bool) (t : Nat) : Nat → List Eff → PV → PV
  | _, [], acc => acc
  | k, e :: es, acc => lastT L t (k + 1) es (if L k then (e.touch t).getD acc else acc)

theorem lastT_congr {L L' : Nat → Bool} {t : Nat} : ∀ {es : List Eff} {k : Nat} {acc : PV}, (∀ (j : Nat) (e : Eff), es[j]? = some e → e.touch t ≠ none → L (k + j) = L' (k + j)) → lastT L t k es acc = lastT L' t k es acc
  | [], _, _, _ => rfl
  | e :: es, k, acc, h => by
    simp only [lastT]
    have h0 : (if L k then (e.touch t).getD acc else acc) = (if L' k then (e.touch t).getD acc else acc) := by
      cases ht : e.touch t with
      | none => simp
      | some p => have := h 0 e rfl (by simp [ht]); rw [Nat.add_zero] at this; rw [this]
    rw [h0]
    exact lastT_congr fun j e' hj ht => by have := h (j + 1) e' (by simpa using hj) ht; rwa [show k + (j + 1) = k + 1 + j by omega] at this

/-- The operation i has come up, and none behind it touches the slot. -/
theorem lastT_at {L : Nat → Bool} {t : Nat} {p : PV} : ∀ {es : List Eff} {k i : Nat} {acc : PV} {e : Eff}, es[i]? = some e → e.touch t = some p → L (k + i) = true →
    (∀ (j : Nat) (e' : Eff), i < j → es[j]? = some e' → e'.touch t ≠ none → L (k + j) = false) → lastT L t k es acc = p
  | [], _, _, _, _, h, _, _, _ => by simp at h
  | e0 :: es, k, 0, acc, e, h, ht, hL, hno => by
    simp at h; subst h
    simp only [lastT]
    rw [Nat.add_zero] at hL
    rw [hL, ht]
    simp only [if_true, Option.getD_some]
    have : ∀ (es : List Eff) (k : Nat), (∀ (j : Nat) (e' : Eff), es[j]? = some e' → e'.touch t ≠ none → L (k + j) = false) → lastT L t k es p = p := by
      intro es
      induction es with
      | nil => intro k _; rfl
      | cons e1 es ih =>
        intro k h
        simp only [lastT]
        have h1 : (if L k then (e1.touch t).getD p else p) = p := by
          cases ht : e1.touch t with
          | none => simp
          | some q => have := h 0 e1 rfl (by simp [ht]); rw [Nat.add_zero] at this; simp [this]
        rw [h1]
        exact ih (k + 1) fun j e' hj ht' => by have := h (j + 1) e' (by simpa using hj) ht'; rwa [show k + (j + 1) = k + 1 + j by omega] at this
    exact this es (k + 1) fun j e' hj ht' => by have := hno (j + 1) e' (by omega) (by simpa using hj) ht'; rwa [show k + (j + 1) = k + 1 + j by omega] at this
  | e0 :: es, k, i + 1, acc, e, h, ht, hL, hno => by
    simp only [lastT]
    exact lastT_at (i := i) (by simpa using h) ht (by rwa [show k + 1 + i = k + (i + 1) by omega]) fun j e' hj hj' ht' => by
      have := hno (j + 1) e' (by omega) (by simpa using hj') ht'
      rwa [show k + (j + 1) = k + 1 + j by omega] at this

def stOf (env0 : List PV) (bs : List (Nat × List Leaf)) (L : Nat → Bool) (es : List Eff) : St := ⟨env0.zipIdx.map fun x => lastT L x.2 0 es x.1, bs⟩

theorem stOf_get {env0 : List PV} {bs : List (Nat × List Leaf)} {L : Nat → Bool} {es : List Eff} (t : Nat) : (stOf env0 bs L es).env[t]? = (env0[t]?).map fun p => lastT L t 0 es p := by
  simp only [stOf, List.getElem?_map, List.getElem?_zipIdx, Nat.zero_add]
  cases env0[t]? <;> rfl

theorem stOf_length {env0 : List PV} {bs : List (Nat × List Leaf)} {L : Nat → Bool} {es : List Eff} : (stOf env0 bs L es).env.length = env0.length := by simp [stOf]

def guardSlot (ops : Array Oper) (o : Oper) : Option Nat := o.guard.bind fun x => (ops[x.1]?).bind (·.dst)

/-- The slots that an operation looks at. -/
def reads (ops : Array Oper) (o : Oper) : List Nat := o.op.operands.toList.filterMap opSlot ++ (guardSlot ops o).toList

def skipEff (d : Nat) : Eff := ⟨some d, .one (.v undef), none, (0, 0)⟩

def drawRun (P : Program) (ops : Array Oper) (gs : List Nat) (bs : List (Nat × List Leaf)) : List Oper → List PV → List Ans → Option (List Eff × List PV × List Ans × List Prop)
  | [], env, ans => some ([], env, ans, [])
  | o :: rest, env, ans =>
    match wantStep ops ⟨env, bs⟩ o [] with
    | some (true, _, _, _) =>
      match dStep P ⟨env, bs⟩ o ans with
      | some (e, _, ans1, obs1) =>
        match (match o.dst with | some d => gs.contains d | none => false), e.p.leaf, ans1 with
        | true, some (.sb c), .br b :: r =>
          (drawRun P ops gs bs rest (Eff.apply { e with p := .one (.v (.bool b)) } env) r).map fun x => ({ e with p := .one (.v (.bool b)) } :: x.1, x.2.1, x.2.2.1, (c = b) :: (obs1 ++ x.2.2.2))
        | _, _, _ => (drawRun P ops gs bs rest (e.apply env) ans1).map fun x => (e :: x.1, x.2.1, x.2.2.1, obs1 ++ x.2.2.2)
      | none => none
    | some (false, _, _, _) =>
      match o.dst with
      | some d => (drawRun P ops gs bs rest ((skipEff d).apply env) ans).map fun x => (skipEff d :: x.1, x.2.1, x.2.2.1, x.2.2.2)
      | none => none
    | none => none

/-- What a run says of one operation, in the state before it. -/
def Fact (P : Program) (ops : Array Oper) (bs : List (Nat × List Leaf)) (env : List PV) (o : Oper) (e : Eff) : Prop :=
  (∃ st1 a1 o1, wantStep ops ⟨env, bs⟩ o [] = some (false, st1, a1, o1) ∧ ∃ d, o.dst = some d ∧ e = skipEff d) ∨
  (∃ st1 a1 o1, wantStep ops ⟨env, bs⟩ o [] = some (true, st1, a1, o1) ∧ ∃ ans e0 g ans' obs, dStep P ⟨env, bs⟩ o ans = some (e0, g, ans', obs) ∧ Obs obs ∧
    (e = e0 ∨ ∃ c b, e0.p = .one (.sb c) ∧ c = b ∧ e = { e0 with p := .one (.v (.bool b)) }))

theorem drawRun_facts {P : Program} {ops : Array Oper} {gs : List Nat} {bs : List (Nat × List Leaf)} : ∀ {l : List Oper} {env env' : List PV} {ans ans' : List Ans} {es : List Eff} {obs : List Prop},
    drawRun P ops gs bs l env ans = some (es, env', ans', obs) → Obs obs →
    es.length = l.length ∧ env' = es.foldl (fun env e => e.apply env) env ∧ ∀ (i : Nat) (o : Oper), l[i]? = some o → ∃ e, es[i]? = some e ∧ Fact P ops bs ((es.take i).foldl (fun env e => e.apply env) env) o e
  | [], env, env', ans, ans', es, obs, h, _ => by
    simp only [drawRun, Option.some.injEq, Prod.mk.injEq] at h
    obtain ⟨rfl, rfl, _, _⟩ := h
    exact ⟨rfl, rfl, fun i o ho => by simp at ho⟩
  | o :: rest, env, env', ans, ans', es, obs, h, ho => by
    have fin : ∀ (e : Eff) (es0 : List Eff) (env1 : List PV), (es0.length = rest.length ∧ env1 = es0.foldl (fun env e => e.apply env) (e.apply env) ∧ ∀ (i : Nat) (o : Oper), rest[i]? = some o → ∃ e', es0[i]? = some e' ∧ Fact P ops bs ((es0.take i).foldl (fun env e => e.apply env) (e.apply env)) o e') →
        Fact P ops bs env o e → (e :: es0).length = (o :: rest).length ∧ env1 = (e :: es0).foldl (fun env e => e.apply env) env ∧ ∀ (i : Nat) (o' : Oper), (o :: rest)[i]? = some o' → ∃ e', (e :: es0)[i]? = some e' ∧ Fact P ops bs (((e :: es0).take i).foldl (fun env e => e.apply env) env) o' e' := by
      intro e es0 env1 ⟨h1, h2, h3⟩ hf
      refine ⟨by simp [h1], h2, fun i o' ho' => ?_⟩
      cases i with
      | zero => simp at ho'; subst ho'; exact ⟨e, rfl, hf⟩
      | succ i => exact h3 i o' (by simpa using ho')
    simp only [drawRun] at h
    split at h
    · rename_i st1 a1 o1 hw
      split at h
      · rename_i e g ans1 obs1 hd
        split at h
        · rename_i c b r hg hl
          rw [Option.map_eq_some_iff] at h
          obtain ⟨⟨x1, x2, x3, x4⟩, h1, h⟩ := h
          simp only [Prod.mk.injEq] at h
          obtain ⟨rfl, rfl, _, rfl⟩ := h
          have o23 : (c = b) ∧ Obs x4 := ⟨ho.1, (Obs.append ho.2).2⟩
          have o1' := (Obs.append ho.2).1
          refine fin _ _ _ (drawRun_facts h1 o23.2) (.inr ⟨_, _, _, hw, _, _, _, _, _, hd, o1', .inr ⟨c, b, ?_, ?_, rfl⟩⟩)
          · cases hp : e.p with
            | al a =>
              rw [hp] at hl
              cases a with
              | one l => simp only [PV.leaf, Option.some.injEq] at hl; rw [hl]
              | agg ls => cases hl
            | tup as => rw [hp] at hl; cases hl
          · exact o23.1
        · rw [Option.map_eq_some_iff] at h
          obtain ⟨⟨x1, x2, x3, x4⟩, h1, h⟩ := h
          simp only [Prod.mk.injEq] at h
          obtain ⟨rfl, rfl, _, rfl⟩ := h
          obtain ⟨o1', o2⟩ := ho.append
          exact fin _ _ _ (drawRun_facts h1 o2) (.inr ⟨_, _, _, hw, _, _, _, _, _, hd, o1', .inl rfl⟩)
      · cases h
    · rename_i st1 a1 o1 hw
      split at h
      · rename_i d hd
        rw [Option.map_eq_some_iff] at h
        obtain ⟨⟨x1, x2, x3, x4⟩, h1, h⟩ := h
        simp only [Prod.mk.injEq] at h
        obtain ⟨rfl, rfl, _, rfl⟩ := h
        exact fin _ _ _ (drawRun_facts h1 ho) (.inl ⟨_, _, _, hw, d, hd, rfl⟩)
      · cases h
    · cases h
end Go.Sx
