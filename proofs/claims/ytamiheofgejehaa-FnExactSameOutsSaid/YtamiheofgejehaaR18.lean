/- A region that draws its order ends in one state, whatever the order. -/
import Derived.Test.YtamiheofgejehaaR14
set_option linter.unusedVariables false
set_option linter.unusedSimpArgs false
namespace Go.Sx
open Go.RowKit

theorem fillL_congr_parts {st st' : St} {parts : List (Nat × Operand)} (h : ∀ x ∈ parts, st.ev x.2 = st'.ev x.2) : (parts.map fun x => (x.1, st.ev x.2)) = parts.map fun x => (x.1, st'.ev x.2) :=
  List.map_congr_left fun x hx => by rw [h x hx]

theorem pureStep_congr {P : Program} {st st' : St} {op : Op} {ans : List Ans} (hb : st.boxes = st'.boxes) (h : ∀ x ∈ op.operands.toList, st.ev x = st'.ev x) : pureStep P st op ans = pureStep P st' op ans := by
  cases op <;> simp only [pureStep, Op.operands, List.mem_cons, List.mem_nil_iff, forall_eq_or_imp, or_false, forall_eq] at h ⊢
  case load t x => simp only [stepLoad, h, hb]
  case slice t x lo hi mx =>
    have hx : st.ev x = st'.ev x := h x (by simp)
    have ho : ∀ o : Option Operand, (∀ y, o = some y → st.ev y = st'.ev y) → optInt st o = optInt st' o := by
      intro o ho
      cases o with
      | none => rfl
      | some y => simp only [optInt, ho y rfl]
    simp only [stepSlice, hx]
    rw [ho lo (fun y e => h y (by simp [e])), ho hi (fun y e => h y (by simp [e]))]
  case build t ps =>
    have : (ps.toList.map fun x => (x.1, st.ev x.2)) = ps.toList.map fun x => (x.1, st'.ev x.2) := fillL_congr_parts fun x hx => h x.2 (by simp; exact ⟨x.1, by simpa using hx⟩)
    simp only [stepBuild, this]
  case call c =>
    obtain ⟨callee, args, ts⟩ := c
    cases callee with
    | value f => rfl
    | invoke r i => rfl
    | builtin b =>
      simp only [Call.operands] at h
      have h' : ∀ x ∈ args.toList, st.ev x = st'.ev x := fun x hx => h x (by simpa using hx)
      simp only
      generalize args.toList = l at h'
      unfold stepBuiltin
      split
      · rw [h' _ (by simp)]
      · rw [h' _ (by simp), h' _ (by simp)]
      · rw [h' _ (by simp), h' _ (by simp)]
      · rfl
  all_goals simp [h]

theorem dStep_congr {P : Program} {st st' : St} {o : Oper} {ans : List Ans} (hb : st.boxes = st'.boxes) (h : ∀ x ∈ o.op.operands.toList, st.ev x = st'.ev x) : dStep P st o ans = dStep P st' o ans := by
  obtain ⟨dst, op, type, pos, after, guard⟩ := o
  simp only at h
  cases dst with
  | none => rfl
  | some d =>
    unfold dStep
    split
    · rename_i f args ts e1 e2
      simp only at e1 e2
      subst e2
      have h' : ∀ x ∈ args.toList, st.ev x = st'.ev x := fun x hx => h x (by simp [Op.operands, Call.operands]; right; simpa using hx)
      have : args.toList.mapM (fun x => (st.ev x).argD) = args.toList.mapM (fun x => (st'.ev x).argD) := by
        generalize args.toList = l at h'
        induction l with
        | nil => rfl
        | cons x l ih => simp only [List.mapM_cons, h' x (by simp), ih fun y hy => h' y (by simp [hy])]
      rw [this]
    · rename_i t n parts e1 e2
      simp only at e1 e2
      subst e2
      have : (parts.toList.map fun x => (x.1, st.ev x.2)) = parts.toList.map fun x => (x.1, st'.ev x.2) := fillL_congr_parts fun x hx => h x.2 (by simp [Op.operands]; exact ⟨x.1, by simpa using hx⟩)
      simp only [bsOf, this]
    · rename_i x y t t' e1 e2
      simp only at e1 e2
      subst e2
      have hx : st.ev x = st'.ev x := h x (by simp [Op.operands, Call.operands])
      have hy : st.ev y = st'.ev y := h y (by simp [Op.operands, Call.operands])
      simp only [apOf, hx, hy]
    · rfl
    · rfl
    · rfl
    · rw [pureStep_congr hb h]
    · rfl

theorem ev_of {st st' : St} {x : Operand} (h : ∀ t, opSlot x = some t → st.env.getD t .und = st'.env.getD t .und) : st.ev x = st'.ev x := by
  cases x with
  | tmp t => simpa [St.ev] using h t rfl
  | _ => rfl

/-- The operation i is bound to come ahead of j. -/
def anc (ms : List Nat) (i j : Nat) : Bool := (ms.getD j 0).testBit i

def edgeMask (ms : List Nat) : List Edge → Nat
  | [] => 0
  | e :: r => if Region.binds .any e then (2 ^ e.on ||| ms.getD e.on 0) ||| edgeMask ms r else edgeMask ms r

def mksGo : List Oper → List Nat → List Nat
  | [], acc => acc
  | o :: r, acc => mksGo r (acc ++ [edgeMask acc o.after.toList])

theorem edgeMask_spec {ms : List Nat} {i : Nat} : ∀ {l : List Edge}, (edgeMask ms l).testBit i = true → ∃ e ∈ l, Region.binds .any e = true ∧ (i = e.on ∨ anc ms i e.on = true)
  | [], h => by simp [edgeMask] at h
  | e :: r, h => by
    simp only [edgeMask] at h
    split at h
    · rename_i hb
      rw [Nat.testBit_or, Nat.testBit_or, Bool.or_eq_true, Bool.or_eq_true, Nat.testBit_two_pow, decide_eq_true_eq] at h
      rcases h with (h | h) | h
      · exact ⟨e, by simp, hb, .inl h.symm⟩
      · exact ⟨e, by simp, hb, .inr h⟩
      · obtain ⟨e', h1, h2⟩ := edgeMask_spec h
        exact ⟨e', by simp [h1], h2⟩
    · obtain ⟨e', h1, h2⟩ := edgeMask_spec h
      exact ⟨e', by simp [h1], h2⟩

/-- Every entry of a list, with its place. -/
def allAt {α : Type} (f : Nat → α → Bool) : Nat → List α → Bool
  | _, [] => true
  | k, x :: r => f k x && allAt f (k + 1) r

theorem allAt_spec {α : Type} {f : Nat → α → Bool} : ∀ {l : List α} {k : Nat}, allAt f k l = true → ∀ (i : Nat) (x : α), l[i]? = some x → f (k + i) x = true
  | [], _, _, i, x, h => by simp at h
  | y :: r, k, h, 0, x, hx => by
    simp only [allAt, Bool.and_eq_true] at h
    simp at hx; subst hx
    exact h.1
  | y :: r, k, h, i + 1, x, hx => by
    simp only [allAt, Bool.and_eq_true] at h
    have := allAt_spec h.2 i x (by simpa using hx)
    rwa [show k + 1 + i = k + (i + 1) by omega] at this

def masksOk (ms : List Nat) (os : List Oper) : Bool :=
  allAt (fun j o => ms.getD j 0 == edgeMask ms o.after.toList && o.after.toList.all fun e => !Region.binds .any e || decide (e.on < j)) 0 os

theorem masksOk_edge {ms : List Nat} {ops : Array Oper} (h : masksOk ms ops.toList = true) {j : Nat} {o : Oper} (ho : ops[j]? = some o) : (∀ e ∈ o.after, Region.binds .any e = true → e.on < j) ∧
    ∀ i, anc ms i j = true → ∃ e ∈ o.after, Region.binds .any e = true ∧ (i = e.on ∨ anc ms i e.on = true) := by
  have := allAt_spec h j o (by simpa using ho)
  simp only [Nat.zero_add, Bool.and_eq_true, beq_iff_eq, List.all_eq_true, Bool.or_eq_true, Bool.not_eq_true', decide_eq_true_eq] at this
  refine ⟨fun e he hb => (this.2 e (by simpa using he)).resolve_left (by simp [hb]), fun i hi => ?_⟩
  unfold anc at hi
  rw [this.1] at hi
  obtain ⟨e, h1, h2⟩ := edgeMask_spec hi
  exact ⟨e, by simpa using h1, h2⟩

def Closed (ops : Array Oper) (listed : Array Bool) : Prop :=
  ∀ (j : Nat) (o : Oper), listed.getD j false = true → ops[j]? = some o → ∀ e ∈ o.after, Region.binds .any e = true → listed.getD e.on false = true

theorem getD_lt {listed : Array Bool} {j : Nat} (h : listed.getD j false = true) : j < listed.size := by
  rcases Nat.lt_or_ge j listed.size with h' | h'
  · exact h'
  · simp [Array.getElem?_eq_none h'] at h

theorem anc_listed {ms : List Nat} {ops : Array Oper} {listed : Array Bool} (h : masksOk ms ops.toList = true) (hc : Closed ops listed) (hs : listed.size = ops.size) {i : Nat} : ∀ (j : Nat), listed.getD j false = true → anc ms i j = true → listed.getD i false = true := by
  intro j
  induction j using Nat.strongRecOn with
  | ind j ih =>
    intro hj ha
    have hlt : j < ops.size := hs ▸ getD_lt hj
    have ho : ops[j]? = some ops[j] := Array.getElem?_eq_getElem hlt
    obtain ⟨h1, h2⟩ := masksOk_edge h ho
    obtain ⟨e, he, hb, he2⟩ := h2 i ha
    have hel := hc j _ hj ho e he hb
    rcases he2 with rfl | he2
    · exact hel
    · exact ih e.on (h1 e he hb) hel he2

theorem ready_anc {ms : List Nat} {ops : Array Oper} {listed : Array Bool} (h : masksOk ms ops.toList = true) (hc : Closed ops listed) (hs : listed.size = ops.size) {i k : Nat} (hi : i ∈ Region.ready .any ops listed) (ha : anc ms k i = true) : listed.getD k false = true := by
  rw [mem_ready] at hi
  obtain ⟨_, o, ho, he⟩ := hi
  obtain ⟨_, h2⟩ := masksOk_edge h ho
  obtain ⟨e, he1, hb, he2⟩ := h2 k ha
  rcases he2 with rfl | he2
  · exact he e he1 hb
  · exact anc_listed h hc hs _ (he e he1 hb) he2

theorem Closed.ready {ops : Array Oper} {listed : Array Bool} (hc : Closed ops listed) {i : Nat} (hi : i ∈ Region.ready .any ops listed) : Closed ops (listed.setIfInBounds i true) := by
  intro j o hj ho e he hb
  rw [mem_ready] at hi
  obtain ⟨_, oi, hoi, hie⟩ := hi
  by_cases hij : i = j
  · subst hij
    rw [hoi] at ho
    cases ho
    exact getD_set_true (hie e he hb)
  · rw [getD_set_ne false hij] at hj
    exact getD_set_true (hc j o hj ho e he hb)

/-- Where none is ready, all have come up. -/
theorem ready_nil {ms : List Nat} {ops : Array Oper} {listed : Array Bool} (h : masksOk ms ops.toList = true) (hs : listed.size = ops.size) (hr : Region.ready .any ops listed = []) : ∀ j, j < ops.size → listed.getD j false = true := by
  intro j
  induction j using Nat.strongRecOn with
  | ind j ih =>
    intro hlt
    have ho : ops[j]? = some ops[j] := Array.getElem?_eq_getElem hlt
    obtain ⟨h1, _⟩ := masksOk_edge h ho
    cases hl : listed.getD j false with
    | true => rfl
    | false =>
      have : j ∈ Region.ready .any ops listed := by
        rw [mem_ready]
        refine ⟨?_, _, ho, fun e he hb => ih e.on (h1 e he hb) (Nat.lt_trans (h1 e he hb) hlt)⟩
        have hlt' : j < listed.size := hs ▸ hlt
        simp [Array.getElem?_eq_getElem hlt'] at hl ⊢
        exact hl
      rw [hr] at this
      cases this

def slotsOf (e : Eff) : List Nat := e.dst.toList ++ e.use.toList

def namesOf (ops : Array Oper) (o : Oper) (e : Eff) : List Nat := slotsOf e ++ reads ops o

def ordd (ms : List Nat) (i k : Nat) : Bool := if k < i then anc ms k i else anc ms i k

def chkOrd (ops : Array Oper) (ms : List Nat) (es : List Eff) : Bool :=
  allAt (fun i x => allAt (fun k e => k == i || ordd ms i k || !((slotsOf e).any fun t => (namesOf ops x.1 x.2).contains t)) 0 es) 0 (ops.toList.zip es)

def chkTok (ms : List Nat) (es : List Eff) (env0 : List PV) (bs : List (Nat × List Leaf)) : Bool :=
  allAt (fun i e => decide (e.rng.2 ≤ e.rng.1) ||
    (allAt (fun j x => j == i || anc ms i j || !x.p.ment e.rng || (e.use.isSome && x.dst == e.use)) 0 es &&
     allAt (fun t p => !p.ment e.rng || e.use == some t) 0 env0 &&
     bs.all fun x => !x.2.any (Leaf.ment e.rng))) 0 es

theorem touch_slots {e : Eff} {t : Nat} (h : e.touch t ≠ none) : t ∈ slotsOf e := by
  unfold Eff.touch at h
  split at h
  · rename_i hd; simp [slotsOf, hd]
  · split at h
    · rename_i hu; simp [slotsOf, hu]
    · exact absurd rfl h

theorem chkOrd_spec {ops : Array Oper} {ms : List Nat} {es : List Eff} (h : chkOrd ops ms es = true) {i k : Nat} {o : Oper} {ei ek : Eff} (ho : ops[i]? = some o) (hi : es[i]? = some ei) (hk : es[k]? = some ek) (hne : k ≠ i) {t : Nat}
    (ht : ek.touch t ≠ none) (hn : t ∈ namesOf ops o ei) : ordd ms i k = true := by
  have h1 := allAt_spec h i (o, ei) (by
    rw [List.getElem?_zip_eq_some]
    exact ⟨by simpa using ho, hi⟩)
  have h2 := allAt_spec h1 k ek hk
  simp only [Nat.zero_add, Bool.or_eq_true, beq_iff_eq, Bool.not_eq_true'] at h2
  rcases h2 with (h2 | h2) | h2
  · exact absurd h2 hne
  · exact h2
  · rw [List.any_eq_false] at h2
    have := h2 t (touch_slots ht)
    simp only [List.contains_iff_mem] at this
    exact absurd hn this

theorem Tag.ment_empty {r : Rng} (h : r.2 ≤ r.1) (t : Tag) : t.ment r = false := by
  cases t with
  | free => rfl
  | own s => simp only [Tag.ment, Rng.has, Bool.and_eq_false_iff, decide_eq_false_iff_not]; omega
  | ro s => simp only [Tag.ment, Rng.has, Bool.and_eq_false_iff, decide_eq_false_iff_not]; omega
theorem Leaf.ment_empty {r : Rng} (h : r.2 ≤ r.1) (l : Leaf) : l.ment r = false := by
  cases l <;> simp [Leaf.ment, Tag.ment_empty h]
theorem AL.ment_empty {r : Rng} (h : r.2 ≤ r.1) (a : AL) : a.ment r = false := by
  cases a <;> simp [AL.ment, Leaf.ment_empty h]
theorem PV.ment_empty {r : Rng} (h : r.2 ≤ r.1) (p : PV) : p.ment r = false := by
  cases p <;> simp [PV.ment, AL.ment_empty h]

theorem chkTok_spec {ms : List Nat} {es : List Eff} {env0 : List PV} {bs : List (Nat × List Leaf)} (h : chkTok ms es env0 bs = true) {i : Nat} {e : Eff} (hi : es[i]? = some e) :
    (∀ (j : Nat) (x : Eff), es[j]? = some x → j ≠ i → anc ms i j = true ∨ x.p.ment e.rng = false ∨ (e.use ≠ none ∧ x.dst = e.use)) ∧
    (∀ (t : Nat) (p : PV), env0[t]? = some p → p.ment e.rng = false ∨ e.use = some t) ∧ ∀ x ∈ bs, x.2.any (Leaf.ment e.rng) = false := by
  have h1 := allAt_spec h i e hi
  simp only [Bool.or_eq_true, decide_eq_true_eq] at h1
  rcases h1 with h1 | h1
  · refine ⟨fun j x _ _ => .inr (.inl (PV.ment_empty h1 _)), fun t p _ => .inl (PV.ment_empty h1 _), fun x _ => ?_⟩
    rw [List.any_eq_false]
    intro l _
    simp [Leaf.ment_empty h1]
  · simp only [Bool.and_eq_true] at h1
    obtain ⟨⟨h1, h2⟩, h3⟩ := h1
    refine ⟨fun j x hx hne => ?_, fun t p hp => ?_, fun x hx => ?_⟩
    · have := allAt_spec h1 j x hx
      simp only [Nat.zero_add, Bool.or_eq_true, beq_iff_eq, Bool.not_eq_true', Bool.and_eq_true] at this
      rcases this with ((h4 | h4) | h4) | h4
      · exact absurd h4 hne
      · exact .inl h4
      · exact .inr (.inl h4)
      · refine .inr (.inr ⟨?_, h4.2⟩)
        intro e0
        rw [e0] at h4
        exact absurd h4.1 (by simp)
    · have := allAt_spec h2 t p hp
      simp only [Nat.zero_add, Bool.or_eq_true, Bool.not_eq_true', beq_iff_eq] at this
      exact this
    · rw [List.all_eq_true] at h3
      simpa using h3 x hx

theorem lastT_cases {L : Nat → Bool} {t : Nat} : ∀ {es : List Eff} {k : Nat} {acc : PV}, lastT L t k es acc = acc ∨ lastT L t k es acc = .und ∨
    ∃ j e, es[j]? = some e ∧ L (k + j) = true ∧ e.dst = some t ∧ lastT L t k es acc = e.p
  | [], _, _ => .inl rfl
  | e :: es, k, acc => by
    simp only [lastT]
    rcases lastT_cases (L := L) (t := t) (es := es) (k := k + 1) (acc := if L k then (e.touch t).getD acc else acc) with h | h | ⟨j, e', h1, h2, h3, h4⟩
    · by_cases hL : L k = true
      · rw [if_pos hL] at h ⊢
        unfold Eff.touch at h ⊢
        by_cases hd : e.dst = some t
        · rw [if_pos hd] at h ⊢
          exact .inr (.inr ⟨0, e, rfl, hL, hd, h⟩)
        · rw [if_neg hd] at h ⊢
          by_cases hu : e.use = some t
          · rw [if_pos hu] at h ⊢
            exact .inr (.inl h)
          · rw [if_neg hu] at h ⊢
            exact .inl h
      · rw [if_neg hL] at h ⊢
        exact .inl h
    · exact .inr (.inl h)
    · exact .inr (.inr ⟨j + 1, e', by simpa using h1, by rwa [show k + (j + 1) = k + 1 + j by omega], h3, h4⟩)

theorem lastT_step {t : Nat} : ∀ {es : List Eff} {k i : Nat} {acc : PV} {e : Eff}, es[i]? = some e →
    lastT (fun j => decide (j < k + i + 1)) t k es acc = (e.touch t).getD (lastT (fun j => decide (j < k + i)) t k es acc)
  | [], _, _, _, _, h => by simp at h
  | e0 :: es, k, 0, acc, e, h => by
    simp at h; subst h
    have hno : ∀ (es : List Eff) (k m : Nat) (acc : PV), m ≤ k → lastT (fun j => decide (j < m)) t k es acc = acc := by
      intro es
      induction es with
      | nil => intro k m acc _; rfl
      | cons e1 es ih =>
        intro k m acc hm
        simp only [lastT]
        rw [if_neg (by simpa using hm)]
        exact ih (k + 1) m acc (by omega)
    simp only [lastT]
    rw [if_pos (by simp), if_neg (by simp), hno _ _ _ _ (by omega), hno _ _ _ _ (by omega)]
  | e0 :: es, k, i + 1, acc, e, h => by
    simp only [lastT]
    rw [if_pos (by simp; omega), if_pos (by simp)]
    have := lastT_step (t := t) (es := es) (k := k + 1) (i := i) (acc := (e0.touch t).getD acc) (by simpa using h)
    rw [show k + 1 + i + 1 = k + (i + 1) + 1 by omega, show k + 1 + i = k + (i + 1) by omega] at this
    exact this

/-- The text order's states. -/
theorem text_state {env0 : List PV} {bs : List (Nat × List Leaf)} {es : List Eff} (hd : ∀ (i : Nat) (e : Eff), es[i]? = some e → e.dst ≠ none) : ∀ (i : Nat), i ≤ es.length →
    (es.take i).foldl (fun env e => e.apply env) env0 = (stOf env0 bs (fun j => decide (j < i)) es).env
  | 0, _ => by
    apply List.ext_getElem?
    intro t
    rw [stOf_get]
    have hno : ∀ (es : List Eff) (k : Nat) (acc : PV), lastT (fun j => decide (j < 0)) t k es acc = acc := by
      intro es
      induction es with
      | nil => intro k acc; rfl
      | cons e1 es ih => intro k acc; simp only [lastT]; rw [if_neg (by simp)]; exact ih _ _
    cases h : env0[t]? with
    | none => simp [h]
    | some p => have := hno es 0 p; simp only [h, List.take_zero, List.foldl_nil, Option.map_some, this]
  | i + 1, hi => by
    have hlt : i < es.length := by omega
    have he : es[i]? = some es[i] := List.getElem?_eq_getElem hlt
    have ih := text_state (env0 := env0) (bs := bs) hd i (by omega)
    rw [List.take_add_one, he, Option.toList_some, List.foldl_append, ih]
    simp only [List.foldl_cons, List.foldl_nil]
    apply List.ext_getElem?
    intro t
    rw [Eff.apply_get (hd i _ he), stOf_get, stOf_get]
    cases h : env0[t]? with
    | none => rfl
    | some p =>
      have := lastT_step (t := t) (es := es) (k := 0) (i := i) (acc := p) he
      simp only [Nat.zero_add] at this
      simp [this]

theorem wantStep_nil {ops : Array Oper} {st st' : St} {o : Oper} {st1 : St} {a1 : List Ans} {o1 : List Prop} {b : Bool} (h : wantStep ops st o [] = some (b, st1, a1, o1)) (hs : ∀ t ∈ reads ops o, st.env.getD t .und = st'.env.getD t .und) :
    wantStep ops st' o [] = some (b, st', [], []) := by
  unfold wantStep at h ⊢
  cases hg : o.guard with
  | none => rw [hg] at h; simp only [Option.some.injEq, Prod.mk.injEq] at h; simp [← h.1]
  | some g =>
    obtain ⟨j, want⟩ := g
    rw [hg] at h
    simp only at h ⊢
    cases hd : (ops[j]?).bind (·.dst) with
    | none => rw [hd] at h; cases h
    | some s =>
      rw [hd] at h
      simp only at h ⊢
      have : s ∈ reads ops o := by simp [reads, guardSlot, hg, hd]
      rw [hs s this] at h
      split at h
      · rename_i e; simp only [Option.some.injEq, Prod.mk.injEq] at h; simp [e, ← h.1]
      · rename_i e; simp only [Option.some.injEq, Prod.mk.injEq] at h; simp [e, ← h.1]
      · cases h
      · cases h

theorem Fact.dst {P : Program} {ops : Array Oper} {bs : List (Nat × List Leaf)} {env : List PV} {o : Oper} {e : Eff} (h : Fact P ops bs env o e) : e.dst = o.dst ∧ e.dst ≠ none := by
  rcases h with ⟨_, _, _, _, d, hd, rfl⟩ | ⟨_, _, _, _, ans, e0, g, ans', obs, h1, _, h2⟩
  · exact ⟨hd.symm, by simp [skipEff]⟩
  · obtain ⟨_, h3, d, h4, _⟩ := dStep_op h1
    rcases h2 with rfl | ⟨c, b, _, _, rfl⟩
    · exact ⟨h3, by rw [h3, h4]; simp⟩
    · exact ⟨h3, by simp only [h3, h4]; simp⟩

theorem Rel.bool {w0 : World} {env : List PV} {bs : List (Nat × List Leaf)} {d : Nat} {c : Bool} {a : Act} {w : World} (h : Rel w0 ⟨env.set d (.one (.sb c)), bs⟩ a w) : Rel w0 ⟨env.set d (.one (.v (.bool c))), bs⟩ a w := by
  obtain ⟨ω, τ, h⟩ := h
  refine ⟨ω, τ, h.defers, by have := h.size; simpa using this, h.below, h.owned, fun i p hp => ?_, h.boxes⟩
  by_cases hi : d = i
  · subst hi
    rw [List.getElem?_set] at hp
    split at hp
    · split at hp
      · rename_i hl
        simp only [Option.some.injEq] at hp
        subst hp
        obtain ⟨v, h1, h2⟩ := h.env d (.one (.sb c)) (by simp [hl])
        exact ⟨v, h1, h2⟩
      · cases hp
    · rename_i hne; exact absurd rfl hne
  · exact h.env i p (by simpa [List.getElem?_set, hi] using hp)

section
variable {P : Program} {ops : Array Oper} {bs : List (Nat × List Leaf)} {env0 : List PV} {es : List Eff} {ms : List Nat}

def lst (listed : Array Bool) (j : Nat) : Bool := listed.getD j false

/-- What a region's run must bring along. -/
structure Drawable (P : Program) (ops : Array Oper) (bs : List (Nat × List Leaf)) (env0 : List PV) (es : List Eff) (ms : List Nat) : Prop where
  len : es.length = ops.size
  facts : ∀ (i : Nat) (o : Oper), ops[i]? = some o → ∃ e, es[i]? = some e ∧ Fact P ops bs (stOf env0 bs (fun j => decide (j < i)) es).env o e
  masks : masksOk ms ops.toList = true
  ord : chkOrd ops ms es = true
  tok : chkTok ms es env0 bs = true

theorem Drawable.dsts (h : Drawable P ops bs env0 es ms) (i : Nat) (e : Eff) (hi : es[i]? = some e) : e.dst ≠ none := by
  have hlt : i < ops.size := h.len ▸ (List.getElem?_eq_some_iff.1 hi).1
  obtain ⟨e', h1, h2⟩ := h.facts i ops[i] (Array.getElem?_eq_getElem hlt)
  rw [hi] at h1; cases h1
  exact h2.dst.2

/-- What the operation names is as in the text's order. -/
theorem Drawable.same (h : Drawable P ops bs env0 es ms) {listed : Array Bool} (hc : Closed ops listed) (hs : listed.size = ops.size) {i : Nat} (hi : i ∈ Region.ready .any ops listed) {o : Oper} (ho : ops[i]? = some o) {e : Eff} (he : es[i]? = some e)
    {t : Nat} (ht : t ∈ namesOf ops o e) : (stOf env0 bs (lst listed) es).env.getD t .und = (stOf env0 bs (fun j => decide (j < i)) es).env.getD t .und := by
  rw [List.getD_eq_getElem?_getD, List.getD_eq_getElem?_getD, stOf_get, stOf_get]
  have hun : listed.getD i false = false := by
    have h0 := (mem_ready.1 hi).1
    have hlt : i < listed.size := hs ▸ (Array.getElem?_eq_some_iff.1 ho).1
    simp [Array.getElem?_eq_getElem hlt] at h0 ⊢
    exact h0
  cases henv : env0[t]? with
  | none => rfl
  | some p =>
    simp only [Option.map_some, Option.getD_some]
    refine lastT_congr fun j ej hj htj => ?_
    rw [Nat.zero_add]
    by_cases hji : j = i
    · subst hji; simp [lst, hun]
    · have := chkOrd_spec h.ord ho he hj hji htj ht
      unfold ordd at this
      split at this
      · rename_i hlt
        have := ready_anc h.masks hc hs hi this
        simp [lst, hlt, this]
      · rename_i hlt
        cases hlj : listed.getD j false with
        | false => simp [lst, hlj, hlt]
        | true => have := anc_listed h.masks hc hs j hlj this; rw [hun] at this; cases this

theorem lst_set {listed : Array Bool} {i : Nat} (hlt : i < listed.size) (j : Nat) : lst (listed.setIfInBounds i true) j = (if j = i then true else lst listed j) := by
  unfold lst
  split
  · rename_i h; subst h; simp [hlt]
  · rename_i h; rw [getD_set_ne false (Ne.symm h)]

theorem Drawable.keep (h : Drawable P ops bs env0 es ms) {listed : Array Bool} {i : Nat} (hlt : i < listed.size) {e : Eff} (he : es[i]? = some e) {t : Nat} (ht : e.touch t = none) (p : PV) :
    lastT (lst (listed.setIfInBounds i true)) t 0 es p = lastT (lst listed) t 0 es p := by
  refine lastT_congr fun j ej hj htj => ?_
  rw [Nat.zero_add, lst_set hlt, if_neg]
  rintro rfl
  rw [he] at hj; cases hj
  exact htj ht

theorem Drawable.last (h : Drawable P ops bs env0 es ms) {listed : Array Bool} (hc : Closed ops listed) (hs : listed.size = ops.size) {i : Nat} (hi : i ∈ Region.ready .any ops listed) {o : Oper} (ho : ops[i]? = some o) {e : Eff} (he : es[i]? = some e)
    {t : Nat} {q : PV} (ht : e.touch t = some q) (p : PV) : lastT (lst (listed.setIfInBounds i true)) t 0 es p = q := by
  have hlt : i < listed.size := hs ▸ (Array.getElem?_eq_some_iff.1 ho).1
  have hun : listed.getD i false = false := by
    have h0 := (mem_ready.1 hi).1
    simp [Array.getElem?_eq_getElem hlt] at h0 ⊢
    exact h0
  refine lastT_at he ht (by rw [Nat.zero_add, lst_set hlt, if_pos rfl]) fun j ej hj hje htj => ?_
  rw [Nat.zero_add, lst_set hlt, if_neg (by omega)]
  have := chkOrd_spec h.ord ho he hje (by omega) htj (t := t) (by
    unfold namesOf
    exact List.mem_append_left _ (touch_slots (by rw [ht]; simp)))
  unfold ordd at this
  rw [if_neg (by omega)] at this
  cases hlj : lst listed j with
  | false => rfl
  | true => have := anc_listed h.masks hc hs j hlj this; rw [hun] at this; cases this

theorem Drawable.step (h : Drawable P ops bs env0 es ms) {listed : Array Bool} (hc : Closed ops listed) (hs : listed.size = ops.size) {i : Nat} (hi : i ∈ Region.ready .any ops listed) {w0 w : World} {a : Act}
    (hr : Rel w0 (stOf env0 bs (lst listed) es) a w) {Q : Exit → Act → World → Prop} {K : Act → World → Prop} (hK : ∀ a' w', Rel w0 (stOf env0 bs (lst (listed.setIfInBounds i true)) es) a' w' → K a' w') : wpOp P ops Q i K a w := by
  obtain ⟨h0, o, ho, hedges⟩ := mem_ready.1 hi
  obtain ⟨e, he, hf⟩ := h.facts i o ho
  have hlt : i < listed.size := hs ▸ (Array.getElem?_eq_some_iff.1 ho).1
  have hsame := fun t ht => h.same hc hs hi ho he (t := t) ht
  have hreads : ∀ t ∈ reads ops o, (stOf env0 bs (fun j => decide (j < i)) es).env.getD t .und = (stOf env0 bs (lst listed) es).env.getD t .und := fun t ht => (hsame t (List.mem_append_right _ ht)).symm
  unfold wpOp
  rw [ho]
  simp only
  rcases hf with ⟨st1, a1, o1, hw, d, hd, rfl⟩ | ⟨st1, a1, o1, hw, ans, e0, g, ans', obs, hds, hobs, hee⟩
  · have hw' := wantStep_nil hw (st' := stOf env0 bs (lst listed) es) hreads
    obtain ⟨hwant, _⟩ := wantStep_ok hw' trivial hr
    rw [if_neg (by rw [hwant]; simp)]
    refine hK _ _ ((skipOp_ok hr).weaken ?_ ?_ ?_)
    · simp [stOf_length, skipOp, hd]
    · simp [stOf, skipOp, hd]
    · intro t p hp
      rw [stOf_get, Option.map_eq_some_iff] at hp
      obtain ⟨p0, hp0, rfl⟩ := hp
      right
      simp only [skipOp, hd]
      rw [List.getElem?_set]
      by_cases hdt : d = t
      · subst hdt
        have : d < env0.length := (List.getElem?_eq_some_iff.1 hp0).1
        rw [if_pos rfl, if_pos (by rw [stOf_length]; exact this), h.last hc hs hi ho he (q := .one (.v undef)) (by simp [Eff.touch, skipEff])]
      · rw [if_neg hdt, stOf_get, hp0, Option.map_some, h.keep hlt he (by simp [Eff.touch, skipEff, hdt])]
  · have hw' := wantStep_nil hw (st' := stOf env0 bs (lst listed) es) hreads
    obtain ⟨hwant, _⟩ := wantStep_ok hw' trivial hr
    rw [if_pos hwant]
    left
    have hcong : dStep P (stOf env0 bs (lst listed) es) o ans = some (e0, g, ans', obs) := by
      rw [← hds]
      refine dStep_congr rfl fun x hx => ev_of fun t ht => (hreads t ?_).symm
      unfold reads
      exact List.mem_append_left _ (List.mem_filterMap.2 ⟨x, hx, ht⟩)
    obtain ⟨hg, hdst, d, hd, hop⟩ := dStep_op hcong
    have hrng : e.rng = e0.rng ∧ e.use = e0.use ∧ e.dst = e0.dst := by
      rcases hee with rfl | ⟨c, b, _, _, rfl⟩
      · exact ⟨rfl, rfl, rfl⟩
      · exact ⟨rfl, rfl, rfl⟩
    obtain ⟨hrng, huse, hdst'⟩ := hrng
    rw [← hrng] at hg
    obtain ⟨htok1, htok2, htok3⟩ := chkTok_spec h.tok he
    have hboxes : ((stOf env0 bs (lst listed) es).map (Leaf.re g fun _ => true)).boxes = bs := by
      simp only [St.map, stOf]
      conv => rhs; rw [← List.map_id bs]
      refine List.map_congr_left fun x hx => ?_
      obtain ⟨x1, x2⟩ := x
      simp only [id, re_map_id hg (htok3 _ hx)]
    refine opStep_ok hop hobs hr fun a' w' hr' => hK _ _ ?_
    rw [hboxes] at hr'
    have hr2 : Rel w0 ⟨((stOf env0 bs (lst listed) es).map (Leaf.re g fun _ => true)).env.set d e.p, bs⟩ a' w' := by
      rcases hee with rfl | ⟨c, b, hp, hcb, rfl⟩
      · exact hr'
      · rw [hp] at hr'
        subst hcb
        exact hr'.bool
    refine hr2.weaken (by simp [stOf_length, St.map]) rfl ?_
    intro t p hp
    rw [stOf_get, Option.map_eq_some_iff] at hp
    obtain ⟨p0, hp0, rfl⟩ := hp
    rw [List.getElem?_set]
    have hed : e.dst = some d := by rw [hdst', hdst, hd]
    by_cases hdt : d = t
    · subst hdt
      right
      have : d < env0.length := (List.getElem?_eq_some_iff.1 hp0).1
      rw [if_pos rfl, if_pos (by simp [St.map, stOf_length, this]), h.last hc hs hi ho he (q := e.p) (by simp [Eff.touch, hed])]
    · rw [if_neg hdt]
      by_cases hut : e.use = some t
      · left
        exact h.last hc hs hi ho he (by simp [Eff.touch, hed, hdt, hut]) p0
      · have hkeep := h.keep hlt he (t := t) (by simp [Eff.touch, hed, hdt, hut]) p0
        rw [hkeep]
        have hment : lastT (lst listed) t 0 es p0 = .und ∨ (lastT (lst listed) t 0 es p0).ment e.rng = false := by
          rcases lastT_cases (L := lst listed) (t := t) (es := es) (k := 0) (acc := p0) with h1 | h1 | ⟨j, ej, h1, h2, h3, h4⟩
          · right; rw [h1]
            exact (htok2 t p0 hp0).resolve_right hut
          · exact .inl h1
          · right
            rw [h4]
            rw [Nat.zero_add] at h2
            have hun : listed.getD i false = false := by
              simp [Array.getElem?_eq_getElem hlt] at h0 ⊢
              exact h0
            have hji : j ≠ i := by rintro rfl; unfold lst at h2; rw [hun] at h2; cases h2
            rcases htok1 j ej h1 hji with h5 | h5 | h5
            · have := anc_listed h.masks hc hs j h2 h5
              rw [hun] at this; cases this
            · exact h5
            · rw [h3] at h5
              exact absurd h5.2.symm hut
        rcases hment with h1 | h1
        · exact .inl h1
        · right
          simp only [St.map, List.getElem?_map]
          rw [stOf_get, hp0]
          simp only [Option.map_some, PV.re_id hg h1]

theorem Drawable.any (h : Drawable P ops bs env0 es ms) {w0 : World} {Q : Exit → Act → World → Prop} (hQ : ∀ a w, Rel w0 (stOf env0 bs (fun j => decide (j < es.length)) es) a w → Q .normal a w) : ∀ (fuel : Nat) {listed : Array Bool}, Closed ops listed → listed.size = ops.size → listed.count false ≤ fuel →
    ∀ {a : Act} {w : World}, Rel w0 (stOf env0 bs (lst listed) es) a w → wpAny P .any ops Q fuel listed a w := by
  have fin : ∀ {listed : Array Bool}, listed.size = ops.size → Region.ready .any ops listed = [] → ∀ {a : Act} {w : World}, Rel w0 (stOf env0 bs (lst listed) es) a w → Q .normal a w := by
    intro listed hs hr a w hrel
    have hall := ready_nil h.masks hs hr
    refine hQ a w ?_
    have : stOf env0 bs (lst listed) es = stOf env0 bs (fun j => decide (j < es.length)) es := by
      unfold stOf
      congr 1
      refine List.map_congr_left fun x _ => ?_
      refine lastT_congr fun j e hj _ => ?_
      have hlt : j < es.length := (List.getElem?_eq_some_iff.1 hj).1
      rw [Nat.zero_add]
      simp only [lst, hall j (h.len ▸ hlt), hlt, decide_true]
    rwa [← this]
  intro fuel
  induction fuel with
  | zero =>
    intro listed hc hs hcnt a w hr
    have hnil : Region.ready .any ops listed = [] := by
      rw [List.eq_nil_iff_forall_not_mem]
      intro j hj
      have h0 := (mem_ready.1 hj)
      obtain ⟨h1, o, ho, _⟩ := h0
      have hlt : j < listed.size := hs ▸ (Array.getElem?_eq_some_iff.1 ho).1
      have hf : listed[j] = false := by simpa [Array.getElem?_eq_getElem hlt] using h1
      have : 0 < listed.count false := by
        rw [Array.count_pos_iff]
        exact hf ▸ Array.getElem_mem hlt
      omega
    exact ⟨hnil, fin hs hnil hr⟩
  | succ fuel ih =>
    intro listed hc hs hcnt a w hr
    refine ⟨fun hnil => fin hs hnil hr, fun i hi => ?_⟩
    refine h.step hc hs hi hr fun a' w' hr' => ih (hc.ready hi) (by simpa using hs) ?_ hr'
    obtain ⟨h1, o, ho, _⟩ := mem_ready.1 hi
    have hlt : i < listed.size := hs ▸ (Array.getElem?_eq_some_iff.1 ho).1
    have hf : listed[i] = false := by simpa [Array.getElem?_eq_getElem hlt] using h1
    have : (listed.setIfInBounds i true).count false = listed.count false - 1 := by
      have e : listed.setIfInBounds i true = listed.set i true hlt := by unfold Array.setIfInBounds; rw [dif_pos hlt]
      rw [e, Array.count_set]
      simp [hf]
    omega

end

theorem Sat.drew {w : World} {ω : Own} {τ : Nat → Nat × Value} {l : Leaf} {y : Value} (h : Sat w ω τ l y) : Sat w.drew ω τ l y := by
  have hf : ∀ {R : List (Nat × Nat) → Owner → Prop} {d : D} {y : Value}, Rep w ω R d y → Rep w.drew ω R d y := fun h => h.frame fun _ _ _ hq => ⟨hq, rfl⟩
  cases l with
  | sl t k es => exact ⟨hf h.1, h.2⟩
  | ep t k es i j =>
    obtain ⟨b, off, cap, h1, h2, h3, h4⟩ := h
    exact ⟨b, off, cap, h1, h2, hf h3, h4⟩
  | _ => exact h

theorem Rel.drew {w0 : World} {st : St} {a : Act} {w : World} (h : Rel w0 st a w) : Rel w0 st a w.drew := by
  obtain ⟨ω, τ, h⟩ := h
  have hi : ∀ p : PV, p.map _root_.id = p := by
    intro p
    cases p with
    | al a => cases a <;> simp [PV.map, AL.map]
    | tup as =>
      simp only [PV.map]
      congr 1
      have : AL.map _root_.id = _root_.id := by funext a; cases a <;> simp [AL.map]
      rw [this]; simp
  refine ⟨ω, τ, h.defers, h.size, h.below.drew, h.owned, fun i p hp => ?_, fun id ls hl => ?_⟩
  · obtain ⟨v, h1, h2⟩ := h.env i p hp
    have := SatP.map (S' := Sat w.drew ω τ) (f := _root_.id) (fun l v hs => Sat.drew hs) h2
    rw [hi] at this
    exact ⟨v, h1, this⟩
  · obtain ⟨b, arr, ty, h1, h2, h3, h4⟩ := h.boxes id ls hl
    have := SatL.map (S' := Sat w.drew ω τ) (f := _root_.id) (fun l v hs => Sat.drew hs) h4
    rw [List.map_id] at this
    exact ⟨b, arr, ty, h1, h2, h3, this⟩

/-- Runs a region whose order is drawn. -/
def drawStep (P : Program) (ops : Array Oper) (st : St) (ans : List Ans) : Stepped :=
  let gs := ops.toList.filterMap (guardSlot ops)
  let ms := mksGo ops.toList []
  match drawRun P ops gs st.boxes ops.toList st.env ans with
  | some (es, env', ans', obs) =>
    if P.follows .mixedOrders && masksOk ms ops.toList && chkOrd ops ms es && chkTok ms es st.env st.boxes then some (⟨env', st.boxes⟩, ans', obs) else none
  | none => none

theorem drawStep_ok {P : Program} {ops : Array Oper} {st st' : St} {ans ans' : List Ans} {obs : List Prop} (h : drawStep P ops st ans = some (st', ans', obs)) (ho : Obs obs) {w0 : World} {a : Act} {w : World} (hr : Rel w0 st a w) {id : Nat}
    {Q : Exit → Act → World → Prop} (hQ : ∀ a' w', Rel w0 st' a' w' → Q .normal a' w') : (Code.region id ops true).wp P Q a w := by
  unfold drawStep at h
  simp only at h
  split at h
  · rename_i es env' ans1 obs1 hrun
    split at h
    · rename_i hc
      simp only [Option.some.injEq, Prod.mk.injEq] at h
      obtain ⟨rfl, _, rfl⟩ := h
      simp only [Bool.and_eq_true] at hc
      obtain ⟨⟨⟨hm, hmask⟩, hord⟩, htok⟩ := hc
      obtain ⟨hlen, hend, hfacts⟩ := drawRun_facts hrun ho
      have hd : ∀ (i : Nat) (e : Eff), es[i]? = some e → e.dst ≠ none := by
        intro i e hi
        have hlt : i < ops.toList.length := hlen ▸ (List.getElem?_eq_some_iff.1 hi).1
        obtain ⟨e', h1, h2⟩ := hfacts i _ (List.getElem?_eq_getElem hlt)
        rw [hi] at h1; cases h1
        exact h2.dst.2
      have hD : Drawable P ops st.boxes st.env es (mksGo ops.toList []) := by
        refine ⟨by simpa using hlen, fun i o hi => ?_, hmask, hord, htok⟩
        obtain ⟨e, h1, h2⟩ := hfacts i o (by simpa using hi)
        refine ⟨e, h1, ?_⟩
        rwa [text_state (bs := st.boxes) hd i (by have := (List.getElem?_eq_some_iff.1 h1).1; omega)] at h2
      refine wp_region_any hm (hD.any (w0 := w0) ?_ ops.size ?_ (by simp) ?_ ?_)
      · intro a' w' hr'
        refine hQ a' w' ?_
        have := text_state (env0 := st.env) (bs := st.boxes) hd es.length (Nat.le_refl _)
        rw [List.take_length, ← hend] at this
        rw [this]
        exact hr'
      · intro j o hj
        have := getD_lt hj
        simp at this
        simp [this] at hj
      · simp [Array.count_replicate]
      · have : stOf st.env st.boxes (lst (Array.replicate ops.size false)) es = st := by
          have hno : ∀ (es : List Eff) (t k : Nat) (acc : PV), lastT (lst (Array.replicate ops.size false)) t k es acc = acc := by
            intro es
            induction es with
            | nil => intro t k acc; rfl
            | cons e1 es ih =>
              intro t k acc
              simp only [lastT]
              rw [if_neg, ih]
              unfold lst
              intro hc
              have := getD_lt hc
              simp at this
              simp [this] at hc
          obtain ⟨env, bs⟩ := st
          unfold stOf
          congr 1
          simp only [hno]
          apply List.ext_getElem?
          intro t
          simp
        rw [this]
        exact hr.drew
    · cases h
  · cases h

end Go.Sx
