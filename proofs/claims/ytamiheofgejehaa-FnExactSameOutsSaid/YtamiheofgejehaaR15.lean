/- Code, loops, and the contract of a function out of a run of its body. -/
import Derived.Test.YtamiheofgejehaaR18
import Derived.LoopN
set_option linter.unusedVariables false
set_option linter.unusedSimpArgs false
namespace Go.Sx
open Go.RowKit

def Ex.exit' : Ex → Exit
  | .normal => .normal
  | .exit id => .exit id
  | .ret => .ret

def Post (w0 : World) (e : Ex) (st : St) : Exit → Act → World → Prop := fun e' a w => e' = e.exit' ∧ Rel w0 st a w

/-- The piece of code goes from the one state to the other. -/
def Tr (P : Program) (c : Code) (st : St) (e : Ex) (st' : St) : Prop := ∀ w0 a w, Rel w0 st a w → c.wp P (Post w0 e st') a w

def LoopOk (P : Program) (c : Code) (st : St) (e : Ex) (st' : St) : Prop := ∃ n, ∀ w0 a w, Rel w0 st a w → Code.rounds P c (Post w0 e st') n a w

theorem LoopOk.last {P : Program} {c : Code} {st st' : St} {e : Ex} (he : e.exit' ≠ .normal) (h : Tr P c st e st') : LoopOk P c st e st' :=
  ⟨1, fun w0 a w hr => Code.wp_mono (fun e' a' w' ⟨h1, h2⟩ => by
    subst h1
    cases e with
    | normal => exact absurd rfl he
    | exit id => exact ⟨rfl, h2⟩
    | ret => exact ⟨rfl, h2⟩) (h w0 a w hr)⟩

theorem LoopOk.more {P : Program} {c : Code} {st st1 st' : St} {e : Ex} (h : Tr P c st .normal st1) (h2 : LoopOk P c st1 e st') : LoopOk P c st e st' := by
  obtain ⟨n, hn⟩ := h2
  refine ⟨n + 1, fun w0 a w hr => Code.wp_mono (fun e' a' w' ⟨h1, h3⟩ => ?_) (h w0 a w hr)⟩
  subst h1
  exact hn w0 a' w' h3

/-- Only these slots are kept. -/
def keepEnv (ks : List Nat) : Nat → List PV → List PV
  | _, [] => []
  | i, p :: r => (if ks.contains i then p else .und) :: keepEnv ks (i + 1) r

theorem keepEnv_get (ks : List Nat) : ∀ (l : List PV) (i j : Nat), (keepEnv ks i l)[j]? = (l[j]?).map fun p => if ks.contains (i + j) then p else .und
  | [], _, _ => by simp [keepEnv]
  | p :: r, i, 0 => by simp [keepEnv]
  | p :: r, i, j + 1 => by
    simp only [keepEnv, List.getElem?_cons_succ, keepEnv_get ks r (i + 1) j]
    rw [show i + 1 + j = i + (j + 1) by omega]

theorem keepEnv_length (ks : List Nat) : ∀ (l : List PV) (i : Nat), (keepEnv ks i l).length = l.length
  | [], _ => rfl
  | p :: r, i => by simp [keepEnv, keepEnv_length ks r]

def keepBoxes (bs : List Nat) : List (Nat × List Leaf) → List (Nat × List Leaf)
  | [] => []
  | (i, ls) :: r => if bs.contains i then (i, ls) :: keepBoxes bs r else keepBoxes bs r

theorem keepBoxes_get (bs : List Nat) (id : Nat) : ∀ (l : List (Nat × List Leaf)) (ls : List Leaf), getBox id (keepBoxes bs l) = some ls → getBox id l = some ls
  | [], _, h => by cases h
  | (i, l0) :: r, ls, h => by
    simp only [keepBoxes] at h
    simp only [getBox]
    split at h
    · simp only [getBox] at h
      split at h
      · rename_i hi; rw [if_pos hi]; exact h
      · rename_i hi; rw [if_neg hi]; exact keepBoxes_get bs id r ls h
    · rename_i hc
      have := keepBoxes_get bs id r ls h
      split
      · rename_i hi
        subst hi
        exfalso
        have hno : ∀ (r : List (Nat × List Leaf)), getBox i (keepBoxes bs r) = none := by
          intro r
          induction r with
          | nil => rfl
          | cons x r ih =>
            obtain ⟨x1, x2⟩ := x
            simp only [keepBoxes]
            split
            · rename_i hx
              simp only [getBox]
              rw [if_neg]
              · exact ih
              · intro e; subst e; exact hc hx
            · exact ih
        rw [hno] at h; cases h
      · exact this

/-- Truth values stand open. -/
def openL : Leaf → Leaf
  | .v (.bool b) => .sb b
  | l => l

theorem openL_sat {w : World} {ω : Own} {τ : Nat → Nat × Value} (l : Leaf) (v : Value) (h : Sat w ω τ l v) : Sat w ω τ (openL l) v := by
  unfold openL
  split
  · exact h
  · exact h

def St.keep (st : St) (ks bs : List Nat) : St := ⟨(keepEnv ks 0 st.env).map (PV.map openL), (keepBoxes bs st.boxes).map fun x => (x.1, x.2.map openL)⟩

theorem Rel.keep {w0 : World} {st : St} {a : Act} {w : World} (h : Rel w0 st a w) (ks bs : List Nat) : Rel w0 (st.keep ks bs) a w := by
  obtain ⟨ω, τ, h⟩ := h
  refine ⟨ω, τ, h.defers, by simp [St.keep, keepEnv_length, h.size], h.below, h.owned, ?_, ?_⟩
  · intro i p hp
    simp only [St.keep] at hp
    rw [List.getElem?_map, Option.map_eq_some_iff] at hp
    obtain ⟨p0, hp, rfl⟩ := hp
    rw [keepEnv_get, Option.map_eq_some_iff] at hp
    obtain ⟨p1, hp, rfl⟩ := hp
    obtain ⟨v, h1, h2⟩ := h.env i p1 hp
    refine ⟨v, h1, SatP.map openL_sat ?_⟩
    split
    · exact h2
    · exact trivial
  · intro id ls hl
    simp only [St.keep] at hl
    rw [getBox_map, Option.map_eq_some_iff] at hl
    obtain ⟨ls0, hl, rfl⟩ := hl
    obtain ⟨b, arr, ty, h1, h2, h3, h4⟩ := h.boxes id ls0 (keepBoxes_get bs id _ _ hl)
    exact ⟨b, arr, ty, h1, h2, h3, h4.map openL_sat⟩

/-- Nil slices in these slots become trees of their own. -/
def nilsStep (st : St) : List (Nat × Nat × Nat) → Option St
  | [] => some st
  | (s, t, k) :: r =>
    match (st.env.getD s .und).leaf with
    | some (.v (.slice none 0 0)) => nilsStep ⟨(st.newTok t []).env.set s (.one (.sl (.own t) k [])), (st.newTok t []).boxes⟩ r
    | _ => none

theorem RelAt.at_slot {w0 : World} {st : St} {a : Act} {w : World} {ω : Own} {τ : Nat → Nat × Value} (h : RelAt w0 st a w ω τ) {s : Nat} {l : Leaf} (hl : (st.env.getD s .und).leaf = some l) (hne : l ≠ .und) : ∃ v, a.tmps[s]? = some v ∧ Sat w ω τ l v := by
  rw [List.getD_eq_getElem?_getD] at hl
  cases e : st.env[s]? with
  | none => rw [e] at hl; simp only [Option.getD_none, PV.leaf, Option.some.injEq] at hl; exact absurd hl.symm hne
  | some p =>
    rw [e] at hl
    obtain ⟨v, h1, h2⟩ := h.env s p e
    exact ⟨v, h1, PV.leaf_sat hl h2⟩

theorem put_same {a : Act} {s : Nat} {v : Value} (h : a.tmps[s]? = some v) : a.put (some s) v = a := by
  simp only [Act.put]
  have : a.tmps.setIfInBounds s v = a.tmps := by
    apply Array.ext
    · simp
    · intro i h1 h2
      rw [Array.getElem_setIfInBounds]
      split
      · rename_i hi
        subst hi
        rw [Array.getElem?_eq_getElem h2] at h
        exact (Option.some.inj h).symm
      · rfl
  rw [this]

theorem nilsStep_ok {w0 : World} {a : Act} {w : World} : ∀ {ns : List (Nat × Nat × Nat)} {st st' : St}, nilsStep st ns = some st' → Rel w0 st a w → Rel w0 st' a w
  | [], st, st', h, hr => by simp only [nilsStep, Option.some.injEq] at h; subst h; exact hr
  | (s, t, k) :: r, st, st', h, hr => by
    simp only [nilsStep] at h
    split at h
    · rename_i hl
      obtain ⟨ω, τ, hr⟩ := hr
      obtain ⟨v, hv, hs⟩ := hr.at_slot hl (by simp)
      have : v = .slice none 0 0 := hs
      subst this
      obtain ⟨ω', h1, h2⟩ := hr.nilTok t k
      have h3 := h1.put (d := s) (p := .one (.sl (.own t) k [])) h2
      rw [put_same hv] at h3
      exact nilsStep_ok h ⟨ω', _, h3⟩
    · cases h

abbrev Ran := Option (Ex × St × List Ans × List Prop)

def run (P : Program) : Code → St → List Ans → Ran
  | .skip, st, ans => some (.normal, st, ans, [])
  | .label _, st, ans => some (.normal, st, ans, [])
  | .region _ ops draw, st, ans => if draw then (drawStep P ops st ans).map fun r => (.normal, r.1, r.2.1, r.2.2) else (runOps P ops ops.toList st ans).map fun r => (.normal, r.1, r.2.1, r.2.2)
  | .seq a b, st, ans =>
    match run P a st ans with
    | some (.normal, st1, ans1, obs1) => (run P b st1 ans1).map fun r => (r.1, r.2.1, r.2.2.1, obs1 ++ r.2.2.2)
    | some (e, st1, ans1, obs1) => some (e, st1, ans1, obs1)
    | none => none
  | .cond c x y, st, ans =>
    match (st.ev c).leaf, ans with
    | some (.v (.bool true)), ans => run P x st ans
    | some (.v (.bool false)), ans => run P y st ans
    | some (.sb c), .br true :: r => (run P x st r).map fun r => (r.1, r.2.1, r.2.2.1, (c = true) :: r.2.2.2)
    | some (.sb c), .br false :: r => (run P y st r).map fun r => (r.1, r.2.1, r.2.2.1, (c = false) :: r.2.2.2)
    | _, _ => none
  | .block id body, st, ans =>
    match run P body st ans with
    | some (.exit i, st1, ans1, obs1) => some (if i = id then .normal else .exit i, st1, ans1, obs1)
    | r => r
  | .loop body, st, ans =>
    match ans with
    | .loop nils ks bs e st' :: r =>
      match e, nilsStep st nils with
      | .normal, _ => none
      | e, some st1 => some (e, st', r, [LoopOk P body (st1.keep ks bs) e st'])
      | _, none => none
    | _ => none
  | .exit id, st, ans => some (.exit id, st, ans, [])
  | .ret, st, ans => some (.ret, st, ans, [])
  | _, _, _ => none

theorem run_ok {P : Program} : ∀ (c : Code) {st st' : St} {ans ans' : List Ans} {obs : List Prop} {e : Ex}, run P c st ans = some (e, st', ans', obs) → Obs obs → Tr P c st e st'
  | .skip, st, st', ans, ans', obs, e, h, ho => by
    simp only [run, Option.some.injEq, Prod.mk.injEq] at h
    obtain ⟨rfl, rfl, _, _⟩ := h
    exact fun w0 a w hr => wp_skip ⟨rfl, hr⟩
  | .label l, st, st', ans, ans', obs, e, h, ho => by
    simp only [run, Option.some.injEq, Prod.mk.injEq] at h
    obtain ⟨rfl, rfl, _, _⟩ := h
    exact fun w0 a w hr => wp_label ⟨rfl, hr⟩
  | .region id ops draw, st, st', ans, ans', obs, e, h, ho => by
    simp only [run] at h
    split at h
    · rename_i hd
      rw [Option.map_eq_some_iff] at h
      obtain ⟨⟨r1, r2, r3⟩, h1, h⟩ := h
      simp only [Prod.mk.injEq] at h
      obtain ⟨rfl, rfl, rfl, rfl⟩ := h
      subst hd
      exact fun w0 a w hr => drawStep_ok h1 ho hr fun a' w' h => ⟨rfl, h⟩
    · rename_i hd
      rw [Option.map_eq_some_iff] at h
      obtain ⟨⟨r1, r2, r3⟩, h1, h⟩ := h
      simp only [Prod.mk.injEq] at h
      obtain ⟨rfl, rfl, rfl, rfl⟩ := h
      have : draw = false := by simpa using hd
      subst this
      exact fun w0 a w hr => wp_region_list (runOps_ok _ h1 ho hr fun a' w' h => ⟨rfl, h⟩)
  | .seq x y, st, st', ans, ans', obs, e, h, ho => by
    simp only [run] at h
    split at h
    · rename_i st1 ans1 obs1 h1
      rw [Option.map_eq_some_iff] at h
      obtain ⟨⟨r1, r2, r3, r4⟩, h2, h⟩ := h
      simp only [Prod.mk.injEq] at h
      obtain ⟨rfl, rfl, rfl, rfl⟩ := h
      obtain ⟨o1, o2⟩ := ho.append
      intro w0 a w hr
      refine wp_seq (Code.wp_mono (fun e' a' w' hp => ?_) (run_ok x h1 o1 w0 a w hr))
      obtain ⟨rfl, hr'⟩ := hp
      exact run_ok y h2 o2 w0 a' w' hr'
    · rename_i e1 st1 ans1 obs1 hne h1
      simp only [Option.some.injEq, Prod.mk.injEq] at h
      obtain ⟨rfl, rfl, rfl, rfl⟩ := h
      intro w0 a w hr
      refine wp_seq (Code.wp_mono (fun e' a' w' hp => ?_) (run_ok x h1 ho w0 a w hr))
      obtain ⟨rfl, hr'⟩ := hp
      cases e1 with
      | normal => first | exact (hne rfl).elim | exact (hne _ rfl).elim | exact (hne _ _ _ rfl).elim
      | exit i => exact ⟨rfl, hr'⟩
      | ret => exact ⟨rfl, hr'⟩
    · cases h
  | .cond c x y, st, st', ans, ans', obs, e, h, ho => by
    intro w0 a w hr
    have hr0 := hr
    obtain ⟨ω, τ, hr'⟩ := hr0
    have hsat := hr'.ev c
    simp only [run] at h
    split at h
    · rename_i hl
      have : a.eval c = .bool true := PV.leaf_sat hl hsat
      exact wp_cond_true this (run_ok x h ho w0 a w hr)
    · rename_i hl
      have : a.eval c = .bool false := PV.leaf_sat hl hsat
      exact wp_cond_false this (run_ok y h ho w0 a w hr)
    · rename_i c' r hl
      rw [Option.map_eq_some_iff] at h
      obtain ⟨⟨r1, r2, r3, r4⟩, h2, h⟩ := h
      simp only [Prod.mk.injEq] at h
      obtain ⟨rfl, rfl, rfl, rfl⟩ := h
      have : a.eval c = .bool c' := PV.leaf_sat hl hsat
      have hc : c' = true := ho.1
      exact wp_cond_true (by rw [this, hc]) (run_ok x h2 ho.2 w0 a w hr)
    · rename_i c' r hl
      rw [Option.map_eq_some_iff] at h
      obtain ⟨⟨r1, r2, r3, r4⟩, h2, h⟩ := h
      simp only [Prod.mk.injEq] at h
      obtain ⟨rfl, rfl, rfl, rfl⟩ := h
      have : a.eval c = .bool c' := PV.leaf_sat hl hsat
      have hc : c' = false := ho.1
      exact wp_cond_false (by rw [this, hc]) (run_ok y h2 ho.2 w0 a w hr)
    · cases h
  | .block id body, st, st', ans, ans', obs, e, h, ho => by
    intro w0 a w hr
    simp only [run] at h
    split at h
    · rename_i i st1 ans1 obs1 h1
      simp only [Option.some.injEq, Prod.mk.injEq] at h
      obtain ⟨rfl, rfl, rfl, rfl⟩ := h
      refine wp_block (Code.wp_mono (fun e' a' w' hp => ?_) (run_ok body h1 ho w0 a w hr))
      obtain ⟨rfl, hr'⟩ := hp
      simp only [Ex.exit', Exit.inBlock]
      split
      · exact ⟨rfl, hr'⟩
      · exact ⟨rfl, hr'⟩
    · rename_i hne
      refine wp_block (Code.wp_mono (fun e' a' w' hp => ?_) (run_ok body h ho w0 a w hr))
      obtain ⟨rfl, hr'⟩ := hp
      cases e with
      | normal => exact ⟨rfl, hr'⟩
      | exit i => exact absurd h (hne _ _ _ _)
      | ret => exact ⟨rfl, hr'⟩
  | .loop body, st, st', ans, ans', obs, e, h, ho => by
    intro w0 a w hr
    simp only [run] at h
    split at h
    · rename_i nils ks bs e0 st0 r
      split at h
      · cases h
      · rename_i e1 st1 hne hn
        simp only [Option.some.injEq, Prod.mk.injEq] at h
        obtain ⟨rfl, rfl, rfl, rfl⟩ := h
        obtain ⟨n, hl⟩ := ho.1
        exact wp_loop_rounds n (hl w0 a w ((nilsStep_ok hn hr).keep ks bs))
      · cases h
    · cases h
  | .exit id, st, st', ans, ans', obs, e, h, ho => by
    simp only [run, Option.some.injEq, Prod.mk.injEq] at h
    obtain ⟨rfl, rfl, _, _⟩ := h
    exact fun w0 a w hr => wp_exit ⟨rfl, hr⟩
  | .ret, st, st', ans, ans', obs, e, h, ho => by
    simp only [run, Option.some.injEq, Prod.mk.injEq] at h
    obtain ⟨rfl, rfl, _, _⟩ := h
    exact fun w0 a w hr => wp_ret ⟨rfl, hr⟩
  | .rangeFunc .., _, _, _, _, _, _, h, _ => by simp [run] at h
  | .scope _, _, _, _, _, _, _, h, _ => by simp [run] at h
  | .goto _, _, _, _, _, _, _, h, _ => by simp [run] at h
  | .refuse _, _, _, _, _, _, _, h, _ => by simp [run] at h
end Go.Sx
