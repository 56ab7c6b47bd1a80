/- Code, loops, and the contract of a function out of a run of its body. -/
import Derived.Test.YtenekpkjlgddnaaR13
import Derived.LoopN
import Derived.ChangeMaps5
import Derived.ChangeSame
import Derived.ChangeStays
import Derived.ProofKit
import Derived.Lib.SmallJoins
set_option linter.unusedVariables false
set_option linter.unusedSimpArgs false
namespace Go.Sx
open Go.RowKit

def Ex.exit' : Ex → Exit
  | .normal => .normal
  | .exit id => .exit id
  | .ret => .ret

def Post (w0 : Base) (e : Ex) (st : St) : Exit → Act → World → Prop := fun e' a w => e' = e.exit' ∧ Rel w0 st a w

/-- The piece of code goes from the one state to the other. -/
def Tr (P : Program) (c : Code) (st : St) (e : Ex) (st' : St) : Prop := ∀ w0 a w, Rel w0 st a w → c.wp P (Post w0 e st') a w

def LoopOk (P : Program) (c : Code) (st : St) (e : Ex) (st' : St) : Prop := ∃ n, ∀ w0 a w, Rel w0 st a w → Code.rounds P c (Post w0 e st') n a w

theorem LoopOk.last {P : Program} {c : Code} {st st' : St} {e : Ex} (he : e.exit' ≠ .normal) (h : Tr P c st e st') : LoopOk P c st e st' :=
  ⟨1, fun w0 a w hr => Code.wp_mono (fun e' a' w' ⟨h1, h2⟩ => by
    subst h1
    cases e with
    | normal => exact absurd rfl he
    | exit id => exact ⟨rfl, h2⟩
    | ret => exact ⟨rfl, h2⟩) (h w0 a w hr)⟩

theorem LoopOk.more {P : Program} {c : Code} {st st1 st' : St} {e : Ex} (h : Tr P c st .normal st1) (h2 : LoopOk P c st1 e st') : LoopOk P c st e st' := by
  obtain ⟨n, hn⟩ := h2
  refine ⟨n + 1, fun w0 a w hr => Code.wp_mono (fun e' a' w' ⟨h1, h3⟩ => ?_) (h w0 a w hr)⟩
  subst h1
  exact hn w0 a' w' h3

/-- Only these slots are kept. -/
def keepEnv (ks : List Nat) : Nat → List PV → List PV
  | _, [] => []
  | i, p :: r => (if ks.contains i then p else .und) :: keepEnv ks (i + 1) r

theorem keepEnv_get (ks : List Nat) : ∀ (l : List PV) (i j : Nat), (keepEnv ks i l)[j]? = (l[j]?).map fun p => if ks.contains (i + j) then p else .und
  | [], _, _ => by simp [keepEnv]
  | p :: r, i, 0 => by simp [keepEnv]
  | p :: r, i, j + 1 => by
    simp only [keepEnv, List.getElem?_cons_succ, keepEnv_get ks r (i + 1) j]
    rw [show i + 1 + j = i + (j + 1) by omega]

theorem keepEnv_length (ks : List Nat) : ∀ (l : List PV) (i : Nat), (keepEnv ks i l).length = l.length
  | [], _ => rfl
  | p :: r, i => by simp [keepEnv, keepEnv_length ks r]

def keepBoxes (bs : List Nat) : List (Nat × List Leaf) → List (Nat × List Leaf)
  | [] => []
  | (i, ls) :: r => if bs.contains i then (i, ls) :: keepBoxes bs r else keepBoxes bs r

theorem keepBoxes_get (bs : List Nat) (id : Nat) : ∀ (l : List (Nat × List Leaf)) (ls : List Leaf), getBox id (keepBoxes bs l) = some ls → getBox id l = some ls
  | [], _, h => by cases h
  | (i, l0) :: r, ls, h => by
    simp only [keepBoxes] at h
    simp only [getBox]
    split at h
    · simp only [getBox] at h
      split at h
      · rename_i hi; rw [if_pos hi]; exact h
      · rename_i hi; rw [if_neg hi]; exact keepBoxes_get bs id r ls h
    · rename_i hc
      have := keepBoxes_get bs id r ls h
      split
      · rename_i hi
        subst hi
        exfalso
        have hno : ∀ (r : List (Nat × List Leaf)), getBox i (keepBoxes bs r) = none := by
          intro r
          induction r with
          | nil => rfl
          | cons x r ih =>
            obtain ⟨x1, x2⟩ := x
            simp only [keepBoxes]
            split
            · rename_i hx
              simp only [getBox]
              rw [if_neg]
              · exact ih
              · intro e; subst e; exact hc hx
            · exact ih
        rw [hno] at h; cases h
      · exact this

/-- Truth values stand open. -/
def openL : Leaf → Leaf
  | .v (.bool b) => .sb b
  | l => l

theorem openL_sat {w : World} {ω : Own} {τ : Nat → Nat × Value} (l : Leaf) (v : Value) (h : Sat w ω τ l v) : Sat w ω τ (openL l) v := by
  unfold openL
  split
  · exact h
  · exact h

def St.keep (st : St) (ks bs : List Nat) : St := ⟨(keepEnv ks 0 st.env).map (PV.map openL), (keepBoxes bs st.boxes).map fun x => (x.1, x.2.map openL)⟩

theorem Rel.keep {w0 : Base} {st : St} {a : Act} {w : World} (h : Rel w0 st a w) (ks bs : List Nat) : Rel w0 (st.keep ks bs) a w := by
  obtain ⟨ω, τ, h⟩ := h
  refine ⟨ω, τ, h.defers, by simp [St.keep, keepEnv_length, h.size], h.below, h.owned, h.fixed, h.pinned, ?_, ?_⟩
  · intro i p hp
    simp only [St.keep] at hp
    rw [List.getElem?_map, Option.map_eq_some_iff] at hp
    obtain ⟨p0, hp, rfl⟩ := hp
    rw [keepEnv_get, Option.map_eq_some_iff] at hp
    obtain ⟨p1, hp, rfl⟩ := hp
    obtain ⟨v, h1, h2⟩ := h.env i p1 hp
    refine ⟨v, h1, SatP.map openL_sat ?_⟩
    split
    · exact h2
    · exact trivial
  · intro id ls hl
    simp only [St.keep] at hl
    rw [getBox_map, Option.map_eq_some_iff] at hl
    obtain ⟨ls0, hl, rfl⟩ := hl
    obtain ⟨b, arr, ty, h1, h2, h3, h4⟩ := h.boxes id ls0 (keepBoxes_get bs id _ _ hl)
    exact ⟨b, arr, ty, h1, h2, h3, h4.map openL_sat⟩

/-- A nil slice in a box becomes a tree of its own. -/
def nilBox (st : St) (id j t k : Nat) : Option St :=
  match getBox id (st.newTok t []).boxes with
  | some ls =>
    match ls[j]? with
    | some (.v (.slice none 0 0)) => if t < giv then some ⟨(st.newTok t []).env, setBox id (ls.set j (.sl (.own t) k [])) (st.newTok t []).boxes⟩ else none
    | _ => none
  | none => none

/-- A tree in a box gets another token. -/
def renBox (st : St) (id j t : Nat) : Option St :=
  match getBox id st.boxes with
  | some ls0 =>
    match ls0[j]? with
    | some (.sl (.own s0) k' es) =>
      if t < giv then
        let st1 := st.map (Leaf.re (cutTag s0 t) fun _ => true)
        match getBox id st1.boxes with
        | some ls => some ⟨st1.env, setBox id (ls.set j (.sl (.own t) k' es)) st1.boxes⟩
        | none => none
      else none
    | _ => none
  | none => none

/-- Nil slices in these slots (from 1000000 on: in boxes) become trees of their own. -/
def nilsStep (st : St) : List (Nat × Nat × Nat) → Option St
  | [] => some st
  | (s, t, k) :: r =>
    if 1000000 ≤ s then
      (match renBox st (s / 1000000 - 1) (s % 1000000) t with
      | some st1 => some st1
      | none => nilBox st (s / 1000000 - 1) (s % 1000000) t k).bind fun st1 => nilsStep st1 r else
    match (st.env.getD s .und).leaf with
    | some (.v (.slice none 0 0)) => if t < giv then nilsStep ⟨(st.newTok t []).env.set s (.one (.sl (.own t) k [])), (st.newTok t []).boxes⟩ r else none
    | some (.sl (.own s0) k' es) =>
      if t < giv then nilsStep ⟨(st.map (Leaf.re (cutTag s0 t) fun _ => true)).env.set s (.one (.sl (.own t) k' es)), (st.map (Leaf.re (cutTag s0 t) fun _ => true)).boxes⟩ r else none
    | _ => none

theorem RelAt.at_slot {w0 : Base} {st : St} {a : Act} {w : World} {ω : Own} {τ : Nat → Nat × Value} (h : RelAt w0 st a w ω τ) {s : Nat} {l : Leaf} (hl : (st.env.getD s .und).leaf = some l) (hne : l ≠ .und) : ∃ v, a.tmps[s]? = some v ∧ Sat w ω τ l v := by
  rw [List.getD_eq_getElem?_getD] at hl
  cases e : st.env[s]? with
  | none => rw [e] at hl; simp only [Option.getD_none, PV.leaf, Option.some.injEq] at hl; exact absurd hl.symm hne
  | some p =>
    rw [e] at hl
    obtain ⟨v, h1, h2⟩ := h.env s p e
    exact ⟨v, h1, PV.leaf_sat hl h2⟩

theorem put_same {a : Act} {s : Nat} {v : Value} (h : a.tmps[s]? = some v) : a.put (some s) v = a := by
  simp only [Act.put]
  have : a.tmps.setIfInBounds s v = a.tmps := by
    apply Array.ext
    · simp
    · intro i h1 h2
      rw [Array.getElem_setIfInBounds]
      split
      · rename_i hi
        subst hi
        rw [Array.getElem?_eq_getElem h2] at h
        exact (Option.some.inj h).symm
      · rfl
  rw [this]

theorem nilBox_ok {w0 : Base} {a : Act} {w : World} {st st' : St} {id j t k : Nat} (h : nilBox st id j t k = some st') (hr : Rel w0 st a w) : Rel w0 st' a w := by
  obtain ⟨ω, τ, hr⟩ := hr
  unfold nilBox at h
  split at h
  · rename_i ls hb
    split at h
    · rename_i hj
      split at h
      · rename_i htg
        simp only [Option.some.injEq] at h
        subst h
        obtain ⟨ω', h1, h2⟩ := hr.nilTok t k htg
        refine ⟨ω', _, h1.defers, h1.size, h1.below, h1.owned, h1.fixed, h1.pinned, h1.env, fun id' ls' hl => ?_⟩
        by_cases hid : id' = id
        · subst hid
          rw [getBox_set_self hb] at hl
          cases hl
          obtain ⟨b, arr, ty, e1, e2, e3, e4⟩ := h1.boxes id' ls hb
          refine ⟨b, arr, ty, e1, e2, e3, by rw [e4.1, List.length_set], fun i l hi => ?_⟩
          rw [List.getElem?_set] at hi
          split at hi
          · rename_i hij
            subst hij
            split at hi
            · cases hi
              obtain ⟨u, hu1, hu2⟩ := e4.2 j _ hj
              have hu3 : u = .slice none 0 0 := hu2
              subst hu3
              exact ⟨_, hu1, h2⟩
            · cases hi
          · exact e4.2 i l hi
        · rw [getBox_set_ne hid] at hl
          exact h1.boxes id' ls' hl
      · cases h
    · cases h
  · cases h

theorem renBox_ok {w0 : Base} {a : Act} {w : World} {st st' : St} {id j t : Nat} (h : renBox st id j t = some st') (hr : Rel w0 st a w) : Rel w0 st' a w := by
  obtain ⟨ω, τ, hr⟩ := hr
  unfold renBox at h
  split at h
  case h_2 => cases h
  rename_i ls0 hb0
  split at h
  case h_2 => cases h
  rename_i s0 k' es hj
  split at h
  case isFalse => cases h
  rename_i htg
  simp only at h
  split at h
  case h_2 => cases h
  rename_i ls hb
  simp only [Option.some.injEq] at h
  subst h
  obtain ⟨b0, arr0, ty0, e01, e02, e03, e04⟩ := hr.boxes id ls0 hb0
  obtain ⟨v, hv, hs⟩ := e04.2 j _ hj
  have h1 : RelAt w0 (st.map (Leaf.re (cutTag s0 t) fun _ => true)) a w (fun b => cutOwner s0 t 0 (ω b)) (setHdr τ t k' v) :=
    hr.turn _ (cut_evolve htg).sat hr.below (fun b hb => hr.owned b (cutOwner_ne hb)) (fun id b hb => ⟨cutOwner_box.2 hb, rfl⟩) (fun id b hb => cutOwner_box.1 hb)
      (fun t' ht => by simp only [setHdr]; rw [if_neg (by omega)])
  have h2 : Sat w (fun b => cutOwner s0 t 0 (ω b)) (setHdr τ t k' v) (.sl (.own t) k' es) v := ⟨hs.1.frame fun b q _ hq => ⟨by
    simp only [Tag.R] at hq ⊢
    rw [hq]
    cases q with
    | nil => simp [cutOwner]
    | cons x q => obtain ⟨i, j⟩ := x; simp [cutOwner], rfl⟩, by simp [Tag.hdr, setHdr]⟩
  refine ⟨_, _, h1.defers, h1.size, h1.below, h1.owned, h1.fixed, h1.pinned, h1.env, fun id' ls' hl => ?_⟩
  by_cases hid : id' = id
  · subst hid
    rw [getBox_set_self hb] at hl
    cases hl
    obtain ⟨b, arr, ty, e1, e2, e3, e4⟩ := h1.boxes id' ls hb
    refine ⟨b, arr, ty, e1, e2, e3, by rw [e4.1, List.length_set], fun i l hi => ?_⟩
    rw [List.getElem?_set] at hi
    split at hi
    · rename_i hij
      subst hij
      split at hi
      · cases hi
        have hbb : b = b0 := by
          have e5 : ω b = .box id' := cutOwner_box.1 e1
          exact e02 b e5
        subst hbb
        rw [e03] at e3
        cases e3
        exact ⟨v, hv, h2⟩
      · cases hi
    · exact e4.2 i l hi
  · rw [getBox_set_ne hid] at hl
    exact h1.boxes id' ls' hl

theorem nilsStep_ok {w0 : Base} {a : Act} {w : World} : ∀ {ns : List (Nat × Nat × Nat)} {st st' : St}, nilsStep st ns = some st' → Rel w0 st a w → Rel w0 st' a w
  | [], st, st', h, hr => by simp only [nilsStep, Option.some.injEq] at h; subst h; exact hr
  | (s, t, k) :: r, st, st', h, hr => by
    simp only [nilsStep] at h
    split at h
    · rw [Option.bind_eq_some_iff] at h
      obtain ⟨st1, h1, h⟩ := h
      refine nilsStep_ok h ?_
      split at h1
      · rename_i st2 h2
        cases h1
        exact renBox_ok h2 hr
      · exact nilBox_ok h1 hr
    split at h
    · rename_i hl
      obtain ⟨ω, τ, hr⟩ := hr
      obtain ⟨v, hv, hs⟩ := hr.at_slot hl (by simp)
      have : v = .slice none 0 0 := hs
      subst this
      split at h
      case isFalse => cases h
      rename_i htg
      obtain ⟨ω', h1, h2⟩ := hr.nilTok t k htg
      have h3 := h1.put (d := s) (p := .one (.sl (.own t) k [])) h2
      rw [put_same hv] at h3
      exact nilsStep_ok h ⟨ω', _, h3⟩
    · rename_i s0 k' es hl
      obtain ⟨ω, τ, hr⟩ := hr
      obtain ⟨v, hv, hs⟩ := hr.at_slot hl (by simp)
      split at h
      case isFalse => cases h
      rename_i htg
      have h1 : RelAt w0 (st.map (Leaf.re (cutTag s0 t) fun _ => true)) a w (fun b => cutOwner s0 t 0 (ω b)) (setHdr τ t k' v) :=
        hr.turn _ (cut_evolve htg).sat hr.below (fun b hb => hr.owned b (cutOwner_ne hb)) (fun id b hb => ⟨cutOwner_box.2 hb, rfl⟩) (fun id b hb => cutOwner_box.1 hb)
          (fun t' ht => by simp only [setHdr]; rw [if_neg (by omega)])
      have h3 := h1.put (d := s) (p := .one (.sl (.own t) k' es)) (v := v) ⟨hs.1.frame fun b q _ hq => ⟨by
        simp only [Tag.R] at hq ⊢
        rw [hq]
        cases q with
        | nil => simp [cutOwner]
        | cons x q => obtain ⟨i, j⟩ := x; simp [cutOwner], rfl⟩, by simp [Tag.hdr, setHdr]⟩
      rw [put_same hv] at h3
      exact nilsStep_ok h ⟨_, _, h3⟩
    · cases h

abbrev Ran := Option (Ex × St × List Ans × List Prop)

def run (P : Program) : Code → St → List Ans → Ran
  | .skip, st, ans => some (.normal, st, ans, [])
  | .label _, st, ans => some (.normal, st, ans, [])
  | .region _ ops draw, st, ans => if draw then (regStep P ops st ans).map fun r => (.normal, r.1, r.2.1, r.2.2) else (runOps P ops ops.toList st ans).map fun r => (.normal, r.1, r.2.1, r.2.2)
  | .seq a b, st, ans =>
    match run P a st ans with
    | some (.normal, st1, ans1, obs1) => (run P b st1 ans1).map fun r => (r.1, r.2.1, r.2.2.1, obs1 ++ r.2.2.2)
    | some (e, st1, ans1, obs1) => some (e, st1, ans1, obs1)
    | none => none
  | .cond c x y, st, ans =>
    match (st.ev c).leaf, ans with
    | some (.v (.bool true)), ans => run P x st ans
    | some (.v (.bool false)), ans => run P y st ans
    | some (.sb c), .br true :: r => (run P x st r).map fun r => (r.1, r.2.1, r.2.2.1, (c = true) :: r.2.2.2)
    | some (.sb c), .br false :: r => (run P y st r).map fun r => (r.1, r.2.1, r.2.2.1, (c = false) :: r.2.2.2)
    | _, _ => none
  | .block id body, st, ans =>
    match run P body st ans with
    | some (.exit i, st1, ans1, obs1) => some (if i = id then .normal else .exit i, st1, ans1, obs1)
    | r => r
  | .loop body, st, ans =>
    match ans with
    | .loop nils ks bs e st' :: r =>
      match e, nilsStep st nils with
      | .normal, _ => none
      | e, some st1 => some (e, st', r, [LoopOk P body (st1.keep ks bs) e st'])
      | _, none => none
    | _ => none
  | .exit id, st, ans => some (.exit id, st, ans, [])
  | .ret, st, ans => some (.ret, st, ans, [])
  | _, _, _ => none

theorem run_ok {P : Program} : ∀ (c : Code) {st st' : St} {ans ans' : List Ans} {obs : List Prop} {e : Ex}, run P c st ans = some (e, st', ans', obs) → Obs obs → Tr P c st e st'
  | .skip, st, st', ans, ans', obs, e, h, ho => by
    simp only [run, Option.some.injEq, Prod.mk.injEq] at h
    obtain ⟨rfl, rfl, _, _⟩ := h
    exact fun w0 a w hr => wp_skip ⟨rfl, hr⟩
  | .label l, st, st', ans, ans', obs, e, h, ho => by
    simp only [run, Option.some.injEq, Prod.mk.injEq] at h
    obtain ⟨rfl, rfl, _, _⟩ := h
    exact fun w0 a w hr => wp_label ⟨rfl, hr⟩
  | .region id ops draw, st, st', ans, ans', obs, e, h, ho => by
    simp only [run] at h
    split at h
    · rename_i hd
      rw [Option.map_eq_some_iff] at h
      obtain ⟨⟨r1, r2, r3⟩, h1, h⟩ := h
      simp only [Prod.mk.injEq] at h
      obtain ⟨rfl, rfl, rfl, rfl⟩ := h
      subst hd
      exact fun w0 a w hr => regStep_ok h1 ho hr fun a' w' h => ⟨rfl, h⟩
    · rename_i hd
      rw [Option.map_eq_some_iff] at h
      obtain ⟨⟨r1, r2, r3⟩, h1, h⟩ := h
      simp only [Prod.mk.injEq] at h
      obtain ⟨rfl, rfl, rfl, rfl⟩ := h
      have : draw = false := by simpa using hd
      subst this
      exact fun w0 a w hr => wp_region_list (runOps_ok _ h1 ho hr fun a' w' h => ⟨rfl, h⟩)
  | .seq x y, st, st', ans, ans', obs, e, h, ho => by
    simp only [run] at h
    split at h
    · rename_i st1 ans1 obs1 h1
      rw [Option.map_eq_some_iff] at h
      obtain ⟨⟨r1, r2, r3, r4⟩, h2, h⟩ := h
      simp only [Prod.mk.injEq] at h
      obtain ⟨rfl, rfl, rfl, rfl⟩ := h
      obtain ⟨o1, o2⟩ := ho.append
      intro w0 a w hr
      refine wp_seq (Code.wp_mono (fun e' a' w' hp => ?_) (run_ok x h1 o1 w0 a w hr))
      obtain ⟨rfl, hr'⟩ := hp
      exact run_ok y h2 o2 w0 a' w' hr'
    · rename_i e1 st1 ans1 obs1 hne h1
      simp only [Option.some.injEq, Prod.mk.injEq] at h
      obtain ⟨rfl, rfl, rfl, rfl⟩ := h
      intro w0 a w hr
      refine wp_seq (Code.wp_mono (fun e' a' w' hp => ?_) (run_ok x h1 ho w0 a w hr))
      obtain ⟨rfl, hr'⟩ := hp
      cases e1 with
      | normal => first | exact (hne rfl).elim | exact (hne _ rfl).elim | exact (hne _ _ _ rfl).elim
      | exit i => exact ⟨rfl, hr'⟩
      | ret => exact ⟨rfl, hr'⟩
    · cases h
  | .cond c x y, st, st', ans, ans', obs, e, h, ho => by
    intro w0 a w hr
    have hr0 := hr
    obtain ⟨ω, τ, hr'⟩ := hr0
    have hsat := hr'.ev c
    simp only [run] at h
    split at h
    · rename_i hl
      have : a.eval c = .bool true := PV.leaf_sat hl hsat
      exact wp_cond_true this (run_ok x h ho w0 a w hr)
    · rename_i hl
      have : a.eval c = .bool false := PV.leaf_sat hl hsat
      exact wp_cond_false this (run_ok y h ho w0 a w hr)
    · rename_i c' r hl
      rw [Option.map_eq_some_iff] at h
      obtain ⟨⟨r1, r2, r3, r4⟩, h2, h⟩ := h
      simp only [Prod.mk.injEq] at h
      obtain ⟨rfl, rfl, rfl, rfl⟩ := h
      have : a.eval c = .bool c' := PV.leaf_sat hl hsat
      have hc : c' = true := ho.1
      exact wp_cond_true (by rw [this, hc]) (run_ok x h2 ho.2 w0 a w hr)
    · rename_i c' r hl
      rw [Option.map_eq_some_iff] at h
      obtain ⟨⟨r1, r2, r3, r4⟩, h2, h⟩ := h
      simp only [Prod.mk.injEq] at h
      obtain ⟨rfl, rfl, rfl, rfl⟩ := h
      have : a.eval c = .bool c' := PV.leaf_sat hl hsat
      have hc : c' = false := ho.1
      exact wp_cond_false (by rw [this, hc]) (run_ok y h2 ho.2 w0 a w hr)
    · cases h
  | .block id body, st, st', ans, ans', obs, e, h, ho => by
    intro w0 a w hr
    simp only [run] at h
    split at h
    · rename_i i st1 ans1 obs1 h1
      simp only [Option.some.injEq, Prod.mk.injEq] at h
      obtain ⟨rfl, rfl, rfl, rfl⟩ := h
      refine wp_block (Code.wp_mono (fun e' a' w' hp => ?_) (run_ok body h1 ho w0 a w hr))
      obtain ⟨rfl, hr'⟩ := hp
      simp only [Ex.exit', Exit.inBlock]
      split
      · exact ⟨rfl, hr'⟩
      · exact ⟨rfl, hr'⟩
    · rename_i hne
      refine wp_block (Code.wp_mono (fun e' a' w' hp => ?_) (run_ok body h ho w0 a w hr))
      obtain ⟨rfl, hr'⟩ := hp
      cases e with
      | normal => exact ⟨rfl, hr'⟩
      | exit i => exact absurd h (hne _ _ _ _)
      | ret => exact ⟨rfl, hr'⟩
  | .loop body, st, st', ans, ans', obs, e, h, ho => by
    intro w0 a w hr
    simp only [run] at h
    split at h
    · rename_i nils ks bs e0 st0 r
      split at h
      · cases h
      · rename_i e1 st1 hne hn
        simp only [Option.some.injEq, Prod.mk.injEq] at h
        obtain ⟨rfl, rfl, rfl, rfl⟩ := h
        obtain ⟨n, hl⟩ := ho.1
        exact wp_loop_rounds n (hl w0 a w ((nilsStep_ok hn hr).keep ks bs))
      · cases h
    · cases h
  | .exit id, st, st', ans, ans', obs, e, h, ho => by
    simp only [run, Option.some.injEq, Prod.mk.injEq] at h
    obtain ⟨rfl, rfl, _, _⟩ := h
    exact fun w0 a w hr => wp_exit ⟨rfl, hr⟩
  | .ret, st, st', ans, ans', obs, e, h, ho => by
    simp only [run, Option.some.injEq, Prod.mk.injEq] at h
    obtain ⟨rfl, rfl, _, _⟩ := h
    exact fun w0 a w hr => wp_ret ⟨rfl, hr⟩
  | .rangeFunc .., _, _, _, _, _, _, h, _ => by simp [run] at h
  | .scope _, _, _, _, _, _, _, h, _ => by simp [run] at h
  | .goto _, _, _, _, _, _, _, h, _ => by simp [run] at h
  | .refuse _, _, _, _, _, _, _, h, _ => by simp [run] at h
end Go.Sx

namespace Go.Sx
open Go.RowKit

def Leaf.resD : Leaf → D → Option (D × Option Nat)
  | .v x, hint =>
    match x, hint with
    | .slice none 0 0, .sl k _ => some (.sl k [], none)
    | x, _ => if x.oneCell' then some (.v x, none) else none
  | .sb c, _ => some (.v (.bool c), none)
  | .sl (.own t) k es, _ => some (.sl k es, some t)
  | _, _ => none

/-- Tokens, and the number of the result cell in which each stands. -/
abbrev Toks := List (Nat × Nat)

def Toks.at (t : Nat) : Toks → Option Nat
  | [] => none
  | (s, n) :: r => if s = t then some n else Toks.at t r

def toksOf (n : Nat) : Option Nat → Toks
  | some t => [(t, n)]
  | none => []

def resLs (n : Nat) : List Leaf → List D → Option (List D × Toks)
  | [], [] => some ([], [])
  | l :: ls, d :: ds =>
    match l.resD d, resLs (n + 1) ls ds with
    | some (d', t), some (ds', ts) => some (d' :: ds', toksOf n t ++ ts)
    | _, _ => none
  | _, _ => none

def resA (n : Nat) : AL → AD → Option (AD × Toks)
  | .one l, .one d => (l.resD d).map fun x => (.one x.1, toksOf n x.2)
  | .agg ls, .agg ds => (resLs n ls ds).map fun x => (.agg x.1, x.2)
  | _, _ => none

def resPs (r : Nat) : List PV → List AD → Option (List AD × Toks)
  | [], [] => some ([], [])
  | .al a :: ps, d :: ds =>
    match resA (100 * r) a d, resPs (r + 1) ps ds with
    | some (d', t), some (ds', ts) => some (d' :: ds', t ++ ts)
    | _, _ => none
  | _, _ => none

def toksOk (ts : Toks) : Bool := ts.all fun x => match ts.at x.1 with | some n => n == x.2 | none => false

theorem toksOk_spec {ts : Toks} (h : toksOk ts = true) {t n : Nat} (hm : (t, n) ∈ ts) : ts.at t = some n := by
  have := List.all_eq_true.1 h _ hm
  simp only at this
  split at this
  · rename_i n' e
    rw [e]
    simp only [beq_iff_eq] at this
    rw [this]
  · cases this

def resOwn (ω : Own) (ts : Toks) : Own := fun b =>
  match ω b with
  | .tok t q => match ts.at t with | some n => .tok n q | none => .imm
  | _ => .imm

theorem Leaf.resD_ok {w : World} {ω : Own} {τ : Nat → Nat × Value} {l : Leaf} {h d : D} {t : Option Nat} {ts : Toks} {n : Nat} {u : Value} (hd : l.resD h = some (d, t)) (hs : Sat w ω τ l u)
    (hts : ∀ s, t = some s → ts.at s = some n) : Rep w (resOwn ω ts) (Tag.own n).R d u := by
  cases l with
  | und => cases hd
  | v x =>
    have e : u = x := hs
    subst e
    simp only [Leaf.resD] at hd
    split at hd
    · simp only [Option.some.injEq, Prod.mk.injEq] at hd
      obtain ⟨rfl, _⟩ := hd
      exact .nil _ _ _
    · split at hd
      · simp only [Option.some.injEq, Prod.mk.injEq] at hd
        obtain ⟨rfl, _⟩ := hd
        exact .v _ _ ‹_›
      · cases hd
  | sb c =>
    have e : u = .bool c := hs
    subst e
    simp only [Leaf.resD, Option.some.injEq, Prod.mk.injEq] at hd
    obtain ⟨rfl, _⟩ := hd
    exact .v _ _ rfl
  | sl g k es =>
    cases g with
    | free => cases hd
    | ro s => cases hd
    | own s =>
      simp only [Leaf.resD, Option.some.injEq, Prod.mk.injEq] at hd
      obtain ⟨rfl, rfl⟩ := hd
      refine hs.1.frame fun b q _ hq => ⟨?_, rfl⟩
      simp only [Tag.R] at hq ⊢
      simp only [resOwn, hq, hts s rfl]
  | ptr => cases hd
  | ep => cases hd
  | rp => cases hd
  | fd => cases hd
  | sv => cases hd
  | clo => cases hd
  | sn => cases hd
  | np => cases hd

theorem mem_toksOf {n : Nat} {t : Option Nat} {s : Nat} (h : t = some s) : (s, n) ∈ toksOf n t := by subst h; simp [toksOf]

theorem resLs_ok {w : World} {ω : Own} {τ : Nat → Nat × Value} {ts : Toks} (hts : ∀ t n, (t, n) ∈ ts → ts.at t = some n) : ∀ {ls : List Leaf} {hs ds : List D} {n : Nat} {ts' : Toks}, resLs n ls hs = some (ds, ts') → (∀ x ∈ ts', x ∈ ts) →
    ds.length = ls.length ∧ ∀ (j : Nat) (d : D), ds[j]? = some d → ∃ l, ls[j]? = some l ∧ ∀ u, Sat w ω τ l u → Rep w (resOwn ω ts) (Tag.own (n + j)).R d u
  | [], [], ds, n, ts', h, _ => by
    simp only [resLs, Option.some.injEq, Prod.mk.injEq] at h
    obtain ⟨rfl, _⟩ := h
    exact ⟨rfl, fun j d hd => by simp at hd⟩
  | l :: ls, h0 :: hs, ds, n, ts', h, hsub => by
    simp only [resLs] at h
    split at h
    · rename_i d' t ds' ts2 e1 e2
      simp only [Option.some.injEq, Prod.mk.injEq] at h
      obtain ⟨rfl, rfl⟩ := h
      obtain ⟨h1, h2⟩ := resLs_ok (w := w) (ω := ω) (τ := τ) hts e2 (fun x hx => hsub x (List.mem_append_right _ hx))
      refine ⟨by simp [h1], fun j d hd => ?_⟩
      cases j with
      | zero =>
        simp at hd; subst hd
        exact ⟨l, rfl, fun u hu => Leaf.resD_ok e1 hu fun s hs' => hts s n (hsub _ (List.mem_append_left _ (mem_toksOf hs')))⟩
      | succ j =>
        obtain ⟨l', h3, h4⟩ := h2 j d (by simpa using hd)
        refine ⟨l', by simpa using h3, fun u hu => ?_⟩
        have := h4 u hu
        rwa [show n + 1 + j = n + (j + 1) by omega] at this
    · cases h
  | [], _ :: _, _, _, _, h, _ => by simp [resLs] at h
  | _ :: _, [], _, _, _, h, _ => by simp [resLs] at h

theorem resA_ok {w : World} {ω : Own} {τ : Nat → Nat × Value} {ts : Toks} (hts : ∀ t n, (t, n) ∈ ts → ts.at t = some n) {a : AL} {h d : AD} {r : Nat} {ts' : Toks} (hr : resA (100 * r) a h = some (d, ts')) (hsub : ∀ x ∈ ts', x ∈ ts)
    {y : Value} (hs : SatA (Sat w ω τ) a y) : CellRes w (resOwn ω ts) r d y := by
  cases a with
  | one l =>
    cases h with
    | agg hs' => cases hr
    | one h0 =>
      simp only [resA, Option.map_eq_some_iff] at hr
      obtain ⟨⟨d', t⟩, h1, h2⟩ := hr
      simp only [Prod.mk.injEq] at h2
      obtain ⟨rfl, rfl⟩ := h2
      exact Leaf.resD_ok h1 hs fun s hs' => hts s _ (hsub _ (mem_toksOf hs'))
  | agg ls =>
    cases h with
    | one h0 => cases hr
    | agg hs' =>
      simp only [resA, Option.map_eq_some_iff] at hr
      obtain ⟨⟨ds, t⟩, h1, h2⟩ := hr
      simp only [Prod.mk.injEq] at h2
      obtain ⟨rfl, rfl⟩ := h2
      obtain ⟨h3, h4⟩ := resLs_ok (w := w) (ω := ω) (τ := τ) hts h1 hsub
      obtain ⟨vs, rfl, hn, hv⟩ := hs
      refine ⟨vs, rfl, by omega, fun j dd hd => ?_⟩
      obtain ⟨l, hl, hl2⟩ := h4 j dd hd
      obtain ⟨u, hu, hu2⟩ := hv j l hl
      exact ⟨u, hu, hl2 u hu2⟩

theorem resPs_ok {w : World} {ω : Own} {τ : Nat → Nat × Value} {ts : Toks} (hts : ∀ t n, (t, n) ∈ ts → ts.at t = some n) : ∀ {ps : List PV} {hs ds : List AD} {r : Nat} {ts' : Toks}, resPs r ps hs = some (ds, ts') → (∀ x ∈ ts', x ∈ ts) →
    ds.length = ps.length ∧ ∀ (j : Nat) (d : AD), ds[j]? = some d → ∃ p, ps[j]? = some p ∧ ∀ u, SatP (Sat w ω τ) p u → CellRes w (resOwn ω ts) (r + j) d u
  | [], [], ds, r, ts', h, _ => by
    simp only [resPs, Option.some.injEq, Prod.mk.injEq] at h
    obtain ⟨rfl, _⟩ := h
    exact ⟨rfl, fun j d hd => by simp at hd⟩
  | .al a :: ps, h0 :: hs, ds, r, ts', h, hsub => by
    simp only [resPs] at h
    split at h
    · rename_i d' t ds' ts2 e1 e2
      simp only [Option.some.injEq, Prod.mk.injEq] at h
      obtain ⟨rfl, rfl⟩ := h
      obtain ⟨h1, h2⟩ := resPs_ok (w := w) (ω := ω) (τ := τ) hts e2 (fun x hx => hsub x (List.mem_append_right _ hx))
      refine ⟨by simp [h1], fun j d hd => ?_⟩
      cases j with
      | zero =>
        simp at hd; subst hd
        exact ⟨.al a, rfl, fun u hu => resA_ok hts e1 (fun x hx => hsub x (List.mem_append_left _ hx)) hu⟩
      | succ j =>
        obtain ⟨l', h3, h4⟩ := h2 j d (by simpa using hd)
        refine ⟨l', by simpa using h3, fun u hu => ?_⟩
        have := h4 u hu
        rwa [show r + 1 + j = r + (j + 1) by omega] at this
    · cases h
  | [], _ :: _, _, _, _, h, _ => by simp [resPs] at h
  | .al _ :: _, [], _, _, _, h, _ => by simp [resPs] at h
  | .tup _ :: _, _, _, _, _, h, _ => by simp [resPs] at h

def AD.arg : AD → AL
  | .one d => .one (d.leaf .free)
  | .agg ds => .agg (ds.map (D.leaf .free))

def initSt (args : List AD) (ntmps : Nat) : St := ⟨args.map (fun a => .al a.arg) ++ List.replicate (ntmps - args.length) .und, []⟩

theorem FreeRep.leaf {w : World} {τ : Nat → Nat × Value} {d : D} {u : Value} (h : FreeRep w d u) : Sat w (fun _ => .imm) τ (d.leaf .free) u := D.leaf_sat (p := (0, 0)) h

theorem init_rel {w : World} {args : List AD} {vs : Array Value} (h : ArgsOk w args vs) (ntmps : Nat) :
    Rel (Base.of w) (initSt args ntmps) { tmps := vs ++ Array.replicate (ntmps - vs.size) undef, defers := [] } w := by
  refine ⟨fun _ => .imm, fun _ => (0, undef), rfl, by simp [initSt, h.1], Bel.refl _, fun b hb => absurd rfl hb, fun _ _ => rfl, (fun _ _ _ h => by cases h), ?_, fun id ls hl => by simp [initSt, getBox] at hl⟩
  intro i p hp
  simp only [initSt] at hp
  rw [List.getElem?_append, List.length_map] at hp
  split at hp
  · rename_i hi
    rw [List.getElem?_map, Option.map_eq_some_iff] at hp
    obtain ⟨ad, had, rfl⟩ := hp
    obtain ⟨v, hv, hok⟩ := h.2 i ad had
    refine ⟨v, ?_, ?_⟩
    · rw [Array.getElem?_append, if_pos (by rw [h.1]; exact hi)]; exact hv
    · cases ad with
      | one d => exact FreeRep.leaf hok
      | agg ds =>
        obtain ⟨us, rfl, hn, hu⟩ := hok
        refine ⟨us, rfl, by simpa using hn, fun j l hl => ?_⟩
        rw [List.getElem?_map, Option.map_eq_some_iff] at hl
        obtain ⟨d, hd, rfl⟩ := hl
        obtain ⟨u, h1, h2⟩ := hu j d hd
        exact ⟨u, h1, FreeRep.leaf h2⟩
  · rename_i hi
    rw [List.getElem?_replicate] at hp
    split at hp
    · rename_i hlt
      simp only [Option.some.injEq] at hp
      subst hp
      refine ⟨undef, ?_, trivial⟩
      rw [Array.getElem?_append, if_neg (by rw [h.1]; exact hi), Array.getElem?_replicate, if_pos (by rw [h.1]; exact hlt)]
    · cases hp

def resVar (P : Program) (st : St) : ResultVar → Option PV
  | .tmp t => some (st.ev (.tmp t))
  | .cell a t =>
    match isAggT P t, P.info? t, (st.ev (.tmp a)).leaf with
    | some agg, some i, some (.ptr id off) =>
      match getBox id st.boxes with
      | some ls => loaded agg i.size ls off
      | none => none
    | _, _, _ => none

def resGet (tmps : Array Value) : ResultVar → Sem Value
  | .tmp t => pure (tmps.getD t undef)
  | .cell x t => do loadVar t (← asAddr (tmps.getD x undef))

theorem results_eq (fn : Func) (tmps : Array Value) : results fn tmps = (do
    let vs ← fn.results.mapM (resGet tmps)
    pure (if h : vs.size = 1 then vs[0] else .tuple vs)) := by
  unfold results
  have : (fun x => match x with | .tmp t => pure (tmps.getD t undef) | .cell a t => do loadVar t (← asAddr (tmps.getD a undef)) : ResultVar → Sem Value) = resGet tmps := by
    funext x; cases x <;> rfl
  rw [← this]
  rfl

theorem resVar_ok {P : Program} {w0 : Base} {st : St} {a : Act} {w : World} {ω : Own} {τ : Nat → Nat × Value} (hrel : RelAt w0 st a w ω τ) {r : ResultVar} {p : PV} (h : resVar P st r = some p) :
    ∃ z, (resGet a.tmps r).run P w = .ok z w ∧ SatP (Sat w ω τ) p z := by
  cases r with
  | tmp t =>
    simp only [resVar, Option.some.injEq] at h
    subst h
    exact ⟨_, rfl, hrel.ev (.tmp t)⟩
  | cell x t =>
    simp only [resVar] at h
    split at h
    · rename_i agg i id off e1 e2 e3
      split at h
      · rename_i ls hbx
        have hx := PV.leaf_sat e3 (hrel.ev (.tmp x))
        obtain ⟨b, hb, hx⟩ := hx
        simp only [Act.eval] at hx
        obtain ⟨b', arr, ty, hb', huniq, hheap, hsz, hsat⟩ := hrel.boxes id ls hbx
        have := huniq b hb
        subst this
        have := loaded_ok (P := P) e1 e2 h hheap (base := 0) (by omega) (fun j l hl => by simpa using hsat j l hl)
        simpa [resGet, hx, asAddr] using this
      · cases h
    · cases h

/-- What a run must come to. -/
def resOf (P : Program) (st : St) (rv : List ResultVar) (hint : List AD) : Option (List AD) :=
  match rv.mapM (resVar P st) with
  | some ps =>
    match resPs 0 ps hint with
    | some (ds, ts) => if toksOk ts then some ds else none
    | none => none
  | none => none

theorem mapM_results {P : Program} {w0 : Base} {st : St} {a : Act} {w : World} {ω : Own} {τ : Nat → Nat × Value} (hrel : RelAt w0 st a w ω τ) : ∀ {rv : List ResultVar} {ps : List PV}, rv.mapM (resVar P st) = some ps →
    ∃ zs : List Value, (rv.mapM (resGet a.tmps)).run P w = .ok zs w ∧ zs.length = ps.length ∧ ∀ (i : Nat) (p : PV), ps[i]? = some p → ∃ z, zs[i]? = some z ∧ SatP (Sat w ω τ) p z
  | [], ps, h => by simp at h; subst h; exact ⟨[], rfl, rfl, fun i p hp => by simp at hp⟩
  | r :: rv, ps, h => by
    rw [List.mapM_cons] at h
    cases e : resVar P st r with
    | none => simp [e] at h
    | some p0 =>
      cases e2 : rv.mapM (resVar P st) with
      | none => simp [e, e2] at h
      | some ps0 =>
        simp [e, e2] at h
        subst h
        obtain ⟨z, h1, h2⟩ := resVar_ok hrel e
        obtain ⟨zs, h3, h4, h5⟩ := mapM_results hrel e2
        refine ⟨z :: zs, ?_, by simp [h4], fun i p hp => ?_⟩
        · rw [List.mapM_cons, Sem.run_bind, h1, Result.andThen_ok, Sem.run_bind, h3]
          rfl
        · cases i with
          | zero => simp at hp; subst hp; exact ⟨z, rfl, h2⟩
          | succ i => exact h5 i p (by simpa using hp)

/-- THE CONTRACT OF A FUNCTION, out of a run of its body. -/
theorem ret_of_run {P : Program} {f : FuncId} {fn : Func} {c : Code} {args rs : List AD} {ans ans' : List Ans} {obs : List Prop} {e : Ex} {st : St} (hf : P.funcs[f]? = some fn) (hb : fn.body = some c)
    (hrun : run P c (initSt args fn.ntmps) ans = some (e, st, ans', obs)) (ho : Obs obs) (he : e = .ret ∨ e = .normal) (hres : resOf P st fn.results.toList rs = some rs) : Ret P f args rs := by
  intro w vs hargs
  refine calls_of_wp hf hb (Code.wp_mono (fun e' a' w' hp => ?_) (run_ok c hrun ho (Base.of w) _ w (init_rel hargs fn.ntmps)))
  obtain ⟨rfl, ω, τ, hrel⟩ := hp
  unfold resOf at hres
  split at hres
  · rename_i ps hps
    split at hres
    · rename_i ds ts hds
      split at hres
      · rename_i hok
        simp only [Option.some.injEq] at hres
        subst hres
        obtain ⟨zs, h1, h2, h3⟩ := mapM_results hrel hps
        obtain ⟨h4, h5⟩ := resPs_ok (w := w') (ω := ω) (τ := τ) (fun t n h => toksOk_spec hok h) hds (fun x hx => hx)
        have hm := run_arr_mapM (P := P) _ fn.results w' _ h1
        have hcell : ∀ (j : Nat) (d : AD), ds[j]? = some d → ∃ z, zs[j]? = some z ∧ CellRes w' (resOwn ω ts) j d z := by
          intro j d hd
          obtain ⟨p, hp, hp2⟩ := h5 j d hd
          obtain ⟨z, hz, hz2⟩ := h3 j p hp
          exact ⟨z, hz, by have := hp2 z hz2; rwa [Nat.zero_add] at this⟩
        have hzl : zs.length = ds.length := by omega
        have hfin : ∀ v, (if h : zs.toArray.size = 1 then zs.toArray[0] else .tuple zs.toArray) = v → ResOk w w' ds v := by
          intro v hv
          refine ⟨resOwn ω ts, fun b hb => ?_, fun b hb => ?_, ?_⟩
          · cases hω : ω b with
            | imm => simp [resOwn, hω]
            | box id => simp [resOwn, hω]
            | tok t q =>
              rcases (hrel.owned b (by simp [hω])).1 with h | h
              · exact absurd hb (by have h : w.heap.size ≤ b := h; omega)
              · exact absurd h (fun h => h)
          · cases hω : ω b with
            | imm => simp [resOwn, hω] at hb
            | box id => simp [resOwn, hω] at hb
            | tok t q =>
              refine ⟨?_, (hrel.owned b (by simp [hω])).2⟩
              simp only [resOwn, hω] at hb ⊢
              cases hts : ts.at t with
              | none => simp [hts] at hb
              | some n => exact ⟨n, q, rfl⟩
          · unfold ResAll
            split
            · rename_i ad
              obtain ⟨z, hz, hc⟩ := hcell 0 ad rfl
              have h1 : zs.length = 1 := by rw [hzl]; rfl
              have hz0 : zs = [z] := by
                match zs, h1, hz with
                | [z0], _, hz => simp at hz; rw [hz]
              have hvz : v = z := by
                rw [← hv]
                simp [hz0]
              rw [hvz]
              exact hc
            · rename_i hne
              have h1 : ¬ zs.toArray.size = 1 := by
                intro h
                simp at h
                rw [hzl] at h
                obtain ⟨d, hd⟩ := List.length_eq_one_iff.1 h
                exact hne d hd
              rw [dif_neg h1] at hv
              exact ⟨zs.toArray, hv.symm, by simpa using hzl, fun r ad hr => by obtain ⟨z, hz, hc⟩ := hcell r ad hr; exact ⟨z, by simpa using hz, hc⟩⟩
        have hR : ∃ v, (results fn a'.tmps).run P w' = .ok v w' ∧ ∃ u, Ending.returned v = .returned u ∧ Blw w.heap.size w w' ∧ ResOk w w' ds u := by
          refine ⟨_, ?_, _, rfl, hrel.below.below, hfin _ rfl⟩
          rw [results_eq, Sem.run_bind, hm]
          rfl
        obtain ⟨v, h6, h7⟩ := hR
        rcases he with rfl | rfl
        · exact ⟨hrel.defers, v, h6, h7⟩
        · exact ⟨hrel.defers, v, h6, h7⟩
      · cases hres
    · cases hres
  · cases hres
end Go.Sx

namespace Go.Sx
open Go.RowKit

def outc (P : Program) (c : Code) (ntmps : Nat) (rv : List ResultVar) (args hint : List AD) (ans : List Ans) : Option (List AD × List Prop) :=
  match run P c (initSt args ntmps) ans with
  | some (.ret, st, _, obs) => (resOf P st rv hint).map fun rs => (rs, obs)
  | some (.normal, st, _, obs) => (resOf P st rv hint).map fun rs => (rs, obs)
  | _ => none

def codeOf (fn : Func) : Code := fn.body.getD .skip

/-- The contract of a function: its run, computed, and what that owes. -/
theorem Ret.of {P : Program} {f : FuncId} {fn : Func} {args rs : List AD} (ans : List Ans) (obs : List Prop) (hf : P.funcs[f]? = some fn) (hb : fn.body.isSome = true)
    (h : outc P (codeOf fn) fn.ntmps fn.results.toList args rs ans = some (rs, obs)) (ho : Obs obs) : Ret P f args rs := by
  obtain ⟨c, hc⟩ := Option.isSome_iff_exists.1 hb
  have hcode : codeOf fn = c := by simp [codeOf, hc]
  unfold outc at h
  rw [hcode] at h
  split at h
  · rename_i st a obs' hr
    rw [Option.map_eq_some_iff] at h
    obtain ⟨rs', h1, h⟩ := h
    simp only [Prod.mk.injEq] at h
    obtain ⟨rfl, rfl⟩ := h
    exact ret_of_run hf hc hr ho (.inl rfl) h1
  · rename_i st a obs' hr
    rw [Option.map_eq_some_iff] at h
    obtain ⟨rs', h1, h⟩ := h
    simp only [Prod.mk.injEq] at h
    obtain ⟨rfl, rfl⟩ := h
    exact ret_of_run hf hc hr ho (.inr rfl) h1
  · cases h

def loopc (P : Program) (body : Code) (st : St) (ans : List Ans) (ks bs : List Nat) : Option (Ex × St × List Prop) :=
  (run P body st ans).map fun r => (r.1, r.2.1.keep ks bs, r.2.2.2)

theorem Tr.of_loopc {P : Program} {body : Code} {st st' : St} {ans : List Ans} {ks bs : List Nat} {e : Ex} {obs : List Prop} (h : loopc P body st ans ks bs = some (e, st', obs)) (ho : Obs obs) : Tr P body st e st' := by
  unfold loopc at h
  rw [Option.map_eq_some_iff] at h
  obtain ⟨⟨r1, r2, r3, r4⟩, h1, h⟩ := h
  simp only [Prod.mk.injEq] at h
  obtain ⟨rfl, rfl, rfl⟩ := h
  intro w0 a w hr
  exact Code.wp_mono (fun e' a' w' ⟨h1, h2⟩ => ⟨h1, h2.keep ks bs⟩) (run_ok body h1 ho w0 a w hr)

/-- .. with trees that take other tokens at the end of the round. -/
def loopr (P : Program) (body : Code) (st : St) (ans : List Ans) (ns : List (Nat × Nat × Nat)) (ks bs : List Nat) : Option (Ex × St × List Prop) :=
  (run P body st ans).bind fun r => (nilsStep r.2.1 ns).map fun s => (r.1, s.keep ks bs, r.2.2.2)

theorem Tr.of_loopr {P : Program} {body : Code} {st st' : St} {ans : List Ans} {ns : List (Nat × Nat × Nat)} {ks bs : List Nat} {e : Ex} {obs : List Prop} (h : loopr P body st ans ns ks bs = some (e, st', obs)) (ho : Obs obs) : Tr P body st e st' := by
  unfold loopr at h
  rw [Option.bind_eq_some_iff] at h
  obtain ⟨⟨r1, r2, r3, r4⟩, h1, h⟩ := h
  rw [Option.map_eq_some_iff] at h
  obtain ⟨s, hs, h⟩ := h
  simp only [Prod.mk.injEq] at h
  obtain ⟨rfl, rfl, rfl⟩ := h
  intro w0 a w hr
  exact Code.wp_mono (fun e' a' w' ⟨h1, h2⟩ => ⟨h1, (nilsStep_ok hs h2).keep ks bs⟩) (run_ok body h1 ho w0 a w hr)

theorem LoopOk.step {P : Program} {body : Code} {st st1 st' : St} {e : Ex} (ans : List Ans) (ks bs : List Nat) (obs : List Prop) (h : loopc P body st ans ks bs = some (.normal, st1, obs)) (ho : Obs obs) (h2 : LoopOk P body st1 e st') : LoopOk P body st e st' :=
  .more (Tr.of_loopc h ho) h2

theorem LoopOk.done {P : Program} {body : Code} {st st' : St} {e : Ex} (ans : List Ans) (ks bs : List Nat) (obs : List Prop) (he : e.exit' ≠ .normal) (h : loopc P body st ans ks bs = some (e, st', obs)) (ho : Obs obs) : LoopOk P body st e st' :=
  .last he (Tr.of_loopc h ho)

theorem exit_ne (i : Nat) : (Ex.exit i).exit' ≠ .normal := fun h => by cases h
theorem ret_ne : Ex.ret.exit' ≠ .normal := fun h => by cases h

/-- The bodies of the loops of a piece of code, the outer before the inner. -/
def loopsIn : Code → List Code
  | .seq a b => loopsIn a ++ loopsIn b
  | .cond _ a b => loopsIn a ++ loopsIn b
  | .block _ b => loopsIn b
  | .loop b => b :: loopsIn b
  | .scope b => loopsIn b
  | _ => []

def loopOf (fn : Func) (i : Nat) : Code := (loopsIn (codeOf fn)).getD i .skip

/-- A frame of n slots of which these are known. -/
def envOf (n : Nat) (l : List (Nat × PV)) : List PV := l.foldl (fun e x => e.set x.1 x.2) (List.replicate n .und)
abbrev I (n : Int) : D := .v (.int .i64 n)
abbrev B (b : Bool) : D := .v (.bool b)
abbrev Str (s : ByteArray) : D := .v (.string s)
end Go.Sx

namespace Go.Sx
open Go.RowKit

inductive ShD (P : Program) : TypeId → List D → Prop
  | bool (t : TypeId) (b : Bool) (h : P.underlying t = some .bool) : ShD P t [.v (.bool b)]
  | int (t : TypeId) (k : IntKind) (n : Int) (h : P.underlying t = some (.int k)) (hw : (Lit.int k n).wf = true) : ShD P t [.v (.int k n)]
  | str (t : TypeId) (s : ByteArray) (h : P.underlying t = some .string) (hs : s.size ≤ maxLen) : ShD P t [.v (.string s)]
  | sl (t e : TypeId) (es : List (List D)) (h : P.underlying t = some (.slice e)) (hl : es.length ≤ maxLen) (he : ∀ ds ∈ es, ShD P e ds) : ShD P t [.sl (P.cellsOf e) es]
  | struct (t : TypeId) (fs : Array Field) (ds : List D) (h : P.underlying t = some (.struct fs)) (hl : ds.length = P.cellsOf t) (hf : ∀ f ∈ fs.toList, ShD P f.type ((ds.drop f.offset).take (P.cellsOf f.type))) : ShD P t ds

def tiles (P : Program) : Nat → List Field → Nat → Bool
  | o, [], n => o == n
  | o, f :: r, n => f.offset == o && tiles P (o + P.cellsOf f.type) r n

def simpleT (P : Program) : Nat → TypeId → Bool
  | 0, _ => false
  | m + 1, t =>
    match P.underlying t with
    | some .bool | some (.int _) | some .string => true
    | some (.slice e) => decide (0 < P.cellsOf e) && simpleT P m e
    | some (.struct fs) => fs.toList.all (fun f => simpleT P m f.type) && tiles P 0 fs.toList (P.cellsOf t)
    | _ => false

def RepL (w : World) (ds : List D) (cs : List Value) : Prop := ds.length = cs.length ∧ ∀ (i : Nat) (d : D), ds[i]? = some d → ∃ v, cs[i]? = some v ∧ FreeRep w d v

theorem RepL.one {w : World} {d : D} {v : Value} (h : FreeRep w d v) : RepL w [d] [v] :=
  ⟨rfl, fun i d' hd => by
    cases i with
    | zero => simp at hd; subst hd; exact ⟨v, rfl, h⟩
    | succ i => simp at hd⟩

theorem RepL.append {w : World} {a b : List D} {x y : List Value} (h : RepL w a x) (k : RepL w b y) : RepL w (a ++ b) (x ++ y) := by
  refine ⟨by simp [h.1, k.1], fun i d hd => ?_⟩
  rw [List.getElem?_append] at hd ⊢
  rw [← h.1]
  split at hd
  · rename_i hi; rw [if_pos hi]; exact h.2 i d hd
  · rename_i hi; rw [if_neg hi]; exact k.2 _ d hd

theorem tiles_le {P : Program} : ∀ {fl : List Field} {o n : Nat}, tiles P o fl n = true → o ≤ n ∧ ∀ f ∈ fl, o ≤ f.offset ∧ f.offset + P.cellsOf f.type ≤ n
  | [], o, n, h => by simp [tiles] at h; exact ⟨by omega, fun f hf => by cases hf⟩
  | f :: r, o, n, h => by
    simp only [tiles, Bool.and_eq_true, beq_iff_eq] at h
    obtain ⟨h1, h2⟩ := tiles_le h.2
    refine ⟨by omega, fun g hg => ?_⟩
    rcases List.mem_cons.1 hg with rfl | hg
    · exact ⟨by omega, by omega⟩
    · have := h2 g hg; exact ⟨by omega, this.2⟩

/-- The fields' data, put together. -/
theorem tile {P : Program} {w : World} {cs : List Value} : ∀ {fl : List Field} {o : Nat}, tiles P o fl cs.length = true →
    (∀ f ∈ fl, ∃ ds, ShD P f.type ds ∧ RepL w ds ((cs.drop f.offset).take (P.cellsOf f.type))) →
    ∃ ds, RepL w ds (cs.drop o) ∧ ∀ f ∈ fl, ShD P f.type ((ds.drop (f.offset - o)).take (P.cellsOf f.type))
  | [], o, h, _ => by
    simp only [tiles, beq_iff_eq] at h
    subst h
    exact ⟨[], ⟨by simp, fun i d hd => by simp at hd⟩, fun f hf => by cases hf⟩
  | f :: r, o, h, hf => by
    have hle := tiles_le h
    simp only [tiles, Bool.and_eq_true, beq_iff_eq] at h
    obtain ⟨h0, h⟩ := h
    obtain ⟨ds, h1, h2⟩ := tile h fun g hg => hf g (by simp [hg])
    obtain ⟨d0, h3, h4⟩ := hf f (by simp)
    have hl0 : d0.length = P.cellsOf f.type := by
      rw [h4.1]
      have := (hle.2 f (by simp)).2
      simp; omega
    refine ⟨d0 ++ ds, ?_, ?_⟩
    · have : cs.drop o = (cs.drop f.offset).take (P.cellsOf f.type) ++ cs.drop (o + P.cellsOf f.type) := by
        rw [h0, ← List.drop_drop]
        exact (List.take_append_drop _ _).symm
      rw [this]
      exact h4.append h1
    · intro g hg
      rcases List.mem_cons.1 hg with rfl | hg
      · rw [h0, Nat.sub_self, List.drop_zero, List.take_append_of_le_length (by omega), List.take_of_length_le (by omega)]
        exact h3
      · have hg1 := h2 g hg
        have := (tiles_le h).2 g hg
        rw [List.drop_append, List.drop_eq_nil_of_le (show d0.length ≤ g.offset - o by omega), List.nil_append, hl0]
        rwa [show g.offset - o - P.cellsOf f.type = g.offset - (o + P.cellsOf f.type) by omega]

section
variable {H : Type} {enc : TypeId × Value → H} {P : Program} {w : World} {base : Nat} {held : Bool}

theorem cells_get {a : Addr} {k : Nat} {cs : List Value} (h : w.cells? base a k = some cs) : cs.length = k ∧ ∀ i, i < k → w.cell? (a.add i) = cs[i]? := by
  unfold World.cells? at h
  split at h
  · exact ⟨by simpa using mapM_some_length h, fun i hi => mapM_some_get h i i (by simp [hi])⟩
  · cases h

theorem cell_some {a : Addr} {v : Value} (h : w.cell? a = some v) : ∃ arr ty fr, w.heap[a.block]? = some (.cells arr ty fr) ∧ a.spot = none ∧ arr[a.off]? = some v := by
  unfold World.cell? at h
  split at h
  · rename_i arr ty fr e
    split at h
    · cases h
    · rename_i hs
      refine ⟨arr, ty, fr, e, ?_, h⟩
      cases hsp : a.spot with
      | none => rfl
      | some x => simp [hsp] at hs
  · cases h

theorem trod_rep : ∀ (m : Nat) (t : TypeId) (fuel : Nat) (cs : List Value) (x : DataW H × List MemPlace), simpleT P m t = true → DataW.trod enc P w base (fun _ => true) held fuel t cs = some x →
    ∃ ds, ShD P t ds ∧ RepL w ds cs
  | 0, _, _, _, _, h, _ => by cases h
  | m + 1, t, fuel, cs, x, hs, h => by
    unfold simpleT at hs
    split at hs
    · rename_i hu
      obtain ⟨b, rfl, _⟩ := DataW.trod_bool hu h
      exact ⟨_, .bool t b hu, .one (.v _ _ rfl)⟩
    · rename_i k hu
      obtain ⟨n, rfl, _, hw⟩ := DataW.trod_int hu h
      exact ⟨_, .int t k n hu hw, .one (.v _ _ rfl)⟩
    · rename_i hu
      obtain ⟨s, rfl, _, hw⟩ := DataW.trod_string hu h
      exact ⟨_, .str t s hu hw, .one (.v _ _ rfl)⟩
    · rename_i e hu
      simp only [Bool.and_eq_true, decide_eq_true_eq] at hs
      obtain ⟨hk0, hse⟩ := hs
      rcases DataW.trod_slice hu h with ⟨rfl, _⟩ | ⟨a, len, cap, elems, rest, n, _, rfl, _, _, hl, hc, hlen, hel, hsp, _⟩
      · exact ⟨_, .sl t e [] hu (by simp) (fun ds hds => by cases hds), .one (.nil _ _ _)⟩
      · obtain ⟨hrl, hrest⟩ := hsp rfl
        generalize hkk : P.cellsOf e = k at *
        -- every element up to the room's end is there
        have hall : ∀ i, i < cap → ∃ cs, w.cells? base (a.add (i * k)) k = some cs ∧ ∃ x, DataW.trod enc P w base (fun _ => true) held n e cs = some x := by
          intro i hi
          by_cases hil : i < len
          · have := hel i hil
            obtain ⟨y, hy⟩ : ∃ y, elems[i]? = some y := ⟨elems[i], List.getElem?_eq_getElem (by omega)⟩
            rw [hy, Option.bind_eq_some_iff] at this
            obtain ⟨cs, h1, h2⟩ := this
            exact ⟨cs, h1, y, h2⟩
          · have := hrest (i - len) (by omega)
            rw [show len + (i - len) = i by omega] at this
            obtain ⟨y, hy⟩ : ∃ y, rest[i - len]? = some y := ⟨rest[i - len], List.getElem?_eq_getElem (by omega)⟩
            rw [hy, Option.bind_eq_some_iff] at this
            obtain ⟨cs, h1, h2⟩ := this
            exact ⟨cs, h1, y, h2⟩
        by_cases hcap : cap = 0
        · subst hcap
          have : len = 0 := by omega
          subst this
          have := ShD.sl (P := P) t e [] hu (by simp) (fun ds hds => by cases hds)
          exact ⟨_, this, .one (.nil _ _ _)⟩
        · have helem : ∀ i, ∃ ds, i < len → ShD P e ds ∧ ∃ cs, w.cells? base (a.add (i * k)) k = some cs ∧ RepL w ds cs := by
            intro i
            by_cases hi : i < len
            · obtain ⟨cs, h1, x, h2⟩ := hall i (by omega)
              obtain ⟨ds, h3, h4⟩ := trod_rep m e n cs x hse h2
              exact ⟨ds, fun _ => ⟨h3, cs, h1, h4⟩⟩
            · exact ⟨[], fun h => absurd h hi⟩
          obtain ⟨f, hf⟩ := Classical.skolem.1 helem
          -- the block
          obtain ⟨cl, hcl, _⟩ := hall (cap - 1) (by omega)
          obtain ⟨hcll, hclg⟩ := cells_get hcl
          have hlast := hclg (k - 1) (by omega)
          obtain ⟨vl, hvl⟩ : ∃ v, cl[k - 1]? = some v := ⟨cl[k - 1], List.getElem?_eq_getElem (by omega)⟩
          rw [hvl] at hlast
          obtain ⟨b, off, spot⟩ := a
          have hspot : spot = none := by
            obtain ⟨c0, hc0, _⟩ := hall 0 (by omega)
            obtain ⟨hc0l, hc0g⟩ := cells_get hc0
            have h0 := hc0g 0 hk0
            obtain ⟨v0, hv0⟩ : ∃ v, c0[0]? = some v := ⟨c0[0], List.getElem?_eq_getElem (by omega)⟩
            rw [hv0] at h0
            obtain ⟨_, _, _, _, h1, _⟩ := cell_some h0
            simpa [Addr.add] using h1
          subst hspot
          obtain ⟨arr, ty, fr, hb, _, hlast⟩ := cell_some hlast
          simp only [add_off] at hb hlast
          have hsz : off + cap * k ≤ arr.size := by
            have h1 := (Array.getElem?_eq_some_iff.1 hlast).1
            have h2 : cap * k = (cap - 1) * k + k := by rw [← Nat.succ_mul]; congr 1; omega
            omega
          have hes : ((List.range len).map f).length = len := by simp
          have hget : ∀ i j d, cellAt ((List.range len).map f) i j = some d → i < len ∧ (f i)[j]? = some d := by
            intro i j d hd
            unfold cellAt at hd
            rw [List.getElem?_map] at hd
            by_cases hi : i < len
            · rw [List.getElem?_range hi] at hd
              exact ⟨hi, by simpa using hd⟩
            · rw [List.getElem?_eq_none (by simpa using hi)] at hd
              simp at hd
          have hcell : ∀ i j d, cellAt ((List.range len).map f) i j = some d → ∃ u, arr[off + i * k + j]? = some u ∧ FreeRep w d u := by
            intro i j d hd
            obtain ⟨hi, hj⟩ := hget i j d hd
            obtain ⟨_, cs, h1, h2⟩ := hf i hi
            obtain ⟨hcl', hcg⟩ := cells_get h1
            obtain ⟨u, hu', hr⟩ := h2.2 j d hj
            have hjk : j < k := by rw [← hcl']; exact (List.getElem?_eq_some_iff.1 hu').1
            have := hcg j hjk
            rw [hu'] at this
            obtain ⟨arr2, ty2, fr2, hb2, _, hx⟩ := cell_some this
            simp only [add_off] at hb2 hx
            rw [hb] at hb2
            cases hb2
            exact ⟨u, hx, hr⟩
          have hrep : Rep w (fun _ => .imm) Tag.free.R (.sl k ((List.range len).map f)) (.slice (some ⟨b, off, none⟩) ((List.range len).map f).length cap) := by
            refine .row _ k _ b off cap arr ty fr (fun i j => arr.getD (off + i * k + j) undef) hb rfl (by omega) hsz ?_ ?_ ?_
            · intro e' he
              obtain ⟨i, hi, rfl⟩ := List.mem_map.1 he
              obtain ⟨_, cs, h1, h2⟩ := hf i (by simpa using hi)
              rw [h2.1]; exact (cells_get h1).1
            · intro i j d hd
              obtain ⟨u, h1, _⟩ := hcell i j d hd
              rw [h1]; simp [Array.getD_eq_getD_getElem?, h1]
            · intro i j d hd
              obtain ⟨u, h1, h2⟩ := hcell i j d hd
              have : arr.getD (off + i * k + j) undef = u := by simp [Array.getD_eq_getD_getElem?, h1]
              rw [this]
              exact h2
          rw [hes] at hrep
          have hsl := ShD.sl (P := P) t e ((List.range len).map f) hu (by rw [hes]; omega)
          rw [hkk] at hsl
          refine ⟨_, hsl ?_, .one hrep⟩
          intro ds hds
          obtain ⟨i, hi, rfl⟩ := List.mem_map.1 hds
          exact (hf i (by simpa using hi)).1
    · rename_i fs hu
      simp only [Bool.and_eq_true, List.all_eq_true] at hs
      obtain ⟨hs1, hs2⟩ := hs
      obtain ⟨xs, n, _, _, hl, hxl, hf⟩ := DataW.trod_struct hu h
      rw [← hl] at hs2
      obtain ⟨ds, h1, h2⟩ := tile (w := w) hs2 fun f hff => by
        obtain ⟨i, hi⟩ := List.mem_iff_getElem?.1 hff
        have := hf i f (by simpa using hi)
        have hi' : i < xs.length := by rw [hxl]; have := (List.getElem?_eq_some_iff.1 hi).1; simpa using this
        rw [List.getElem?_eq_getElem hi'] at this
        exact trod_rep m f.type n _ _ (hs1 f hff) this
      rw [List.drop_zero] at h1
      exact ⟨ds, .struct t fs ds hu (by rw [h1.1, hl]) (by simpa using h2), h1⟩
    · cases hs
end
end Go.Sx

namespace Go.Sx
open Go.ChangeShapes Go.WideShapes Go.ChangeAt Go.RowKit Go.Joins

def aggT (P : Program) (t : TypeId) : Bool := match P.underlying t with | some (.struct _) => true | _ => false

def ShA (P : Program) (t : TypeId) : AD → Prop
  | .one d => ShD P t [d] ∧ aggT P t = false
  | .agg ds => ShD P t ds ∧ aggT P t = true

def ShAll (P : Program) : List TypeId → List AD → Prop
  | [], [] => True
  | t :: ts, a :: as => ShA P t a ∧ ShAll P ts as
  | _, _ => False

section
variable {H : Type} {enc : TypeId × Value → H} {P : Program} {w : World} {base b0 : Nat} {held : Bool} {r : Reach}

theorem arg_of {t : TypeId} {v : Value} {d : DataW H} {ps : List MemPlace} (hs : simpleT P 20 t = true) (hval : Value.okWide P w r b0 t v) (h : DataW.Trod enc P w base (fun _ => true) held t v d ps) :
    ∃ ad, ShA P t ad ∧ ArgOk w ad v := by
  obtain ⟨fuel, hf⟩ := h
  obtain ⟨ds, h1, h2⟩ := trod_rep 20 t fuel _ _ hs hf
  have one : (∀ cs, v ≠ .agg cs) → aggT P t = false → ∃ ad, ShA P t ad ∧ ArgOk w ad v := by
    intro hv ha
    have hc : v.cells.toList = [v] := by
      cases v <;> first | rfl | (exact absurd rfl (hv _))
    rw [hc] at h2
    match ds, h1, h2 with
    | [d], h1, h2 =>
      obtain ⟨u, hu, hr⟩ := h2.2 0 d rfl
      simp at hu; subst hu
      exact ⟨.one d, ⟨h1, ha⟩, hr⟩
    | [], _, h2 => simp [RepL] at h2
    | _ :: _ :: _, _, h2 => simp [RepL] at h2
  rw [show (20 : Nat) = 19 + 1 from rfl] at hs
  unfold simpleT at hs
  unfold Value.okWide at hval
  split at hs
  · rename_i hu
    rw [hu] at hval
    refine one (fun cs e => ?_) (by simp [aggT, hu])
    subst e
    simp [Cell.okWide, Cell.ok, hu] at hval
  · rename_i hu
    rw [hu] at hval
    refine one (fun cs e => ?_) (by simp [aggT, hu])
    subst e
    simp [Cell.okWide, Cell.ok, hu] at hval
  · rename_i hu
    rw [hu] at hval
    refine one (fun cs e => ?_) (by simp [aggT, hu])
    subst e
    simp [Cell.okWide, Cell.ok, hu] at hval
  · rename_i hu
    rw [hu] at hval
    refine one (fun cs e => ?_) (by simp [aggT, hu])
    subst e
    simp [Cell.okWide, Cell.ok, hu] at hval
  · rename_i hu
    rw [hu] at hval
    obtain ⟨cs, rfl, _, _⟩ := hval
    refine ⟨.agg ds, ⟨h1, by simp [aggT, hu]⟩, cs, rfl, by have := h2.1; simpa [Value.cells] using this.symm, fun i d hd => ?_⟩
    obtain ⟨u, hu', hr⟩ := h2.2 i d hd
    exact ⟨u, by simpa [Value.cells] using hu', hr⟩
  · cases hs

theorem args_of : ∀ (ts : List TypeId) (vs : List Value) (ds : List (DataW H)) (ps : List MemPlace), ts.all (simpleT P 20) = true → (∀ (j : Nat) t v, ts[j]? = some t → vs[j]? = some v → Value.okWide P w r b0 t v) →
    DataW.TrodAll enc P w base (fun _ => true) held ts vs ds ps → ∃ ads, ShAll P ts ads ∧ vs.length = ads.length ∧ ∀ (i : Nat) (ad : AD), ads[i]? = some ad → ∃ v, vs[i]? = some v ∧ ArgOk w ad v
  | [], [], [], _, _, _, _ => ⟨[], trivial, rfl, fun i ad h => by simp at h⟩
  | t :: ts, v :: vs, d :: ds, ps, hs, hval, h => by
    obtain ⟨p, q, h1, h2, _⟩ := h
    simp only [List.all_cons, Bool.and_eq_true] at hs
    obtain ⟨ad, ha1, ha2⟩ := arg_of hs.1 (hval 0 t v rfl rfl) h1
    obtain ⟨ads, h3, h4, h5⟩ := args_of ts vs ds q hs.2 (fun j t v ht hv => hval (j + 1) t v (by simpa using ht) (by simpa using hv)) h2
    refine ⟨ad :: ads, ⟨ha1, h3⟩, by simp [h4], fun i ad' hi => ?_⟩
    cases i with
    | zero => simp at hi; subst hi; exact ⟨v, rfl, ha2⟩
    | succ i => simpa using h5 i ad' (by simpa using hi)
  | [], _ :: _, _, _, _, _, h => by simp [DataW.TrodAll] at h
  | [], [], _ :: _, _, _, _, h => by simp [DataW.TrodAll] at h
  | _ :: _, [], _, _, _, _, h => by simp [DataW.TrodAll] at h
  | _ :: _, _ :: _, [], _, _, _, h => by simp [DataW.TrodAll] at h

theorem trodAll_below' {H : Type} {enc : TypeId × Value → H} {P : Program} (hl : laidOutB P = true) {W W' : World} (hb : Below W.heap.size W W') :
    ∀ (ts : List TypeId) (vs : List Value) (ds : List (DataW H)) (ps : List MemPlace), ts.all (fun t => P.readableRec t && decide (t < P.types.size)) = true →
      DataW.TrodAll enc P W 0 (fun _ => true) true ts vs ds ps → (∀ x ∈ ps, x.block < W.heap.size) →
      DataW.TrodAll enc P W' 0 (fun b => decide (b < W.heap.size)) true ts vs ds ps
  | [], vs, ds, ps, _, h, _ => by
    obtain ⟨rfl, rfl, rfl⟩ := trodAll_nil h
    exact trodAll_mk0
  | t :: ts, vs, ds, ps, ht, h, hlt => by
    obtain ⟨v, vs', d, ds', p, q, rfl, rfl, rfl, h0, hr⟩ := trodAll_cons h
    simp only [List.all_cons, Bool.and_eq_true, decide_eq_true_eq] at ht
    exact trodAll_cons_mk (Below.trod hl ht.1.1 ht.1.2 h0 hb (fun x hx => hlt x (List.mem_append_left _ hx)))
      (trodAll_below' hl hb ts vs' ds' q ht.2 hr (fun x hx => hlt x (List.mem_append_right _ hx)))

theorem trodAll_len : ∀ (ts : List TypeId) (vs : List Value) (ds : List (DataW H)) (ps : List MemPlace), DataW.TrodAll enc P w base (fun _ => true) held ts vs ds ps → ds.length = ts.length
  | [], [], [], _, _ => rfl
  | t :: ts, v :: vs, d :: ds, ps, h => by
    obtain ⟨p, q, _, h2, _⟩ := h
    simp [trodAll_len ts vs ds q h2]
  | [], _ :: _, _, _, h => by simp [DataW.TrodAll] at h
  | [], [], _ :: _, _, h => by simp [DataW.TrodAll] at h
  | _ :: _, [], _, _, h => by simp [DataW.TrodAll] at h
  | _ :: _, _ :: _, [], _, h => by simp [DataW.TrodAll] at h

/-- A law's function answers true, whatever the arguments: then it answers as its row says. -/
theorem law_of_ret (hl : laidOutB P = true) {f : Func} {fno : Nat} {s : ChangeSpec} {tb : TypeId} (hres : f.resultTypes = #[tb]) (hb : P.underlying tb = some .bool)
    (hp : f.params.toList.all (fun t => P.readableRec t && decide (t < P.types.size)) = true) (hst : f.params.toList.all (simpleT P 20) = true) (hvars : s.vars = [])
    {W : World} {args : Array Value} {ds gs : List (DataW H)} {before : List MemPlace} (hval : ∀ (j : Nat) t v, f.params[j]? = some t → args[j]? = some v → Value.okWide P W r b0 t v)
    (hW : DataW.Whole enc P f.params.toList s.vars false W args.toList ds gs before)
    (hs : ds.length = f.params.size → (s.fn H ds).results = [.lit (.bool true)] ∧ (s.fn H ds).args = ds ∧ (s.fn H ds).vars = [])
    (hlaw : ∀ ads, ShAll P f.params.toList ads → Ret P fno ads [.one (B true)]) :
    Calls P fno args W fun e W' => ∃ v, e = .returned v ∧ s.post enc P f false true false false W args v W' := by
  have hW' := hW
  have hlt := hW.lt
  obtain ⟨p, q, hA, hV, rfl, hfz, hnd⟩ := hW
  rw [hvars] at hV
  obtain ⟨rfl, rfl⟩ := trodVars_none hV
  obtain ⟨h1, h2, h3⟩ := hs (by have := trodAll_len _ _ _ _ hA; simpa using this)
  obtain ⟨ads, hsh, hlen, hok⟩ := args_of _ _ _ _ hst (fun j t v ht hv => hval j t v (by simpa using ht) (by simpa using hv)) hA
  refine (hlaw ads hsh W args ⟨by simpa using hlen, fun i ad hi => by simpa using hok i ad hi⟩).mono ?_
  rintro e W' ⟨v, rfl, hbelow, hr⟩
  have hv : v = .bool true := by
    obtain ⟨ω, _, _, h⟩ := hr
    simp only [ResAll, CellRes] at h
    cases h
    rfl
  subst hv
  refine ⟨_, rfl, ds, [], p ++ [], [], p, [], hW', ?_, ?_, ?_, hbelow.below.frame _, fun h => by cases h⟩
  · rw [List.append_nil, h1, hres]
    exact trodAll_mk1 (shut_bool hb true)
  · rw [List.append_nil, h2]
    exact trodAll_below' hl hbelow.below _ _ _ _ hp hA (fun x hx => hlt x (by simpa using hx))
  · rw [List.append_nil, h3, hvars]
    rfl
end
end Go.Sx
