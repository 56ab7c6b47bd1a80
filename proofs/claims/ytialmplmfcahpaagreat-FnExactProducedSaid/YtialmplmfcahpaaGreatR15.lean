/- Code, loops, and the contract of a function out of a run of its body. -/
import Derived.Test.YtialmplmfcahpaaGreatR14
import Derived.LoopN
set_option linter.unusedVariables false
set_option linter.unusedSimpArgs false
namespace Go.Sx
open Go.RowKit
def Ex.exit' : Ex → Exit
  | .normal => .normal
  | .exit id => .exit id
  | .ret => .ret
def Post (w0 : Base) (e : Ex) (st : St) : Exit → Act → World → Prop := fun e' a w => e' = e.exit' ∧ Rel w0 st a w
def Tr (P : Program) (c : Code) (st : St) (e : Ex) (st' : St) : Prop := ∀ w0 a w, Rel w0 st a w → c.wp P (Post w0 e st') a w
def qac (P : Program) (c : Code) (st : St) (e : Ex) (st' : St) : Prop := ∃ n, ∀ w0 a w, Rel w0 st a w → Code.rounds P c (Post w0 e st') n a w
theorem qac.last {P : Program} {c : Code} {st st' : St} {e : Ex} (he : e.exit' ≠ .normal) (h : Tr P c st e st') : qac P c st e st' :=
  ⟨1, fun w0 a w hr => Code.wp_mono (fun e' a' w' ⟨h1, h2⟩ => by
    subst h1
    cases e with
    | normal => exact absurd rfl he
    | exit id => exact ⟨rfl, h2⟩
    | ret => exact ⟨rfl, h2⟩) (h w0 a w hr)⟩
theorem qac.more {P : Program} {c : Code} {st st1 st' : St} {e : Ex} (h : Tr P c st .normal st1) (h2 : qac P c st1 e st') : qac P c st e st' := by
  obtain ⟨n, hn⟩ := h2
  refine ⟨n + 1, fun w0 a w hr => Code.wp_mono (fun e' a' w' ⟨h1, h3⟩ => ?_) (h w0 a w hr)⟩
  subst h1
  exact hn w0 a' w' h3
def qc3 (ks : List Nat) : Nat → List PV → List PV
  | _, [] => []
  | i, p :: r => (if ks.contains i then p else .und) :: qc3 ks (i + 1) r
theorem qk0 (ks : List Nat) : ∀ (l : List PV) (i j : Nat), (qc3 ks i l)[j]? = (l[j]?).map fun p => if ks.contains (i + j) then p else .und
  | [], _, _ => by simp [qc3]
  | p :: r, i, 0 => by simp [qc3]
  | p :: r, i, j + 1 => by
    simp only [qc3, List.getElem?_cons_succ, qk0 ks r (i + 1) j]
    rw [show i + 1 + j = i + (j + 1) by omega]
theorem qk1 (ks : List Nat) : ∀ (l : List PV) (i : Nat), (qc3 ks i l).length = l.length
  | [], _ => rfl
  | p :: r, i => by simp [qc3, qk1 ks r]
def qdt (bs : List Nat) : List (Nat × List Leaf) → List (Nat × List Leaf)
  | [] => []
  | (i, ls) :: r => if bs.contains i then (i, ls) :: qdt bs r else qdt bs r
theorem qib (bs : List Nat) (id : Nat) : ∀ (l : List (Nat × List Leaf)) (ls : List Leaf), qaz id (qdt bs l) = some ls → qaz id l = some ls
  | [], _, h => by cases h
  | (i, l0) :: r, ls, h => by
    simp only [qdt] at h
    simp only [qaz]
    split at h
    · simp only [qaz] at h
      split at h
      · rename_i hi; rw [if_pos hi]; exact h
      · rename_i hi; rw [if_neg hi]; exact qib bs id r ls h
    · rename_i hc
      have := qib bs id r ls h
      split
      · rename_i hi
        subst hi
        exfalso
        have hno : ∀ (r : List (Nat × List Leaf)), qaz i (qdt bs r) = none := by
          intro r
          induction r with
          | nil => rfl
          | cons x r ih =>
            obtain ⟨x1, x2⟩ := x
            simp only [qdt]
            split
            · rename_i hx
              simp only [qaz]
              rw [if_neg]
              · exact ih
              · intro e; subst e; exact hc hx
            · exact ih
        rw [hno] at h; cases h
      · exact this
def openL : Leaf → Leaf
  | .v (.bool b) => .sb b
  | l => l
theorem qk2 {w : World} {ω : Own} {τ : Nat → Nat × Value} (l : Leaf) (v : Value) (h : Sat w ω τ l v) : Sat w ω τ (openL l) v := by
  unfold openL
  split
  · exact h
  · exact h
def St.keep (st : St) (ks bs : List Nat) : St := ⟨(qc3 ks 0 st.env).map (PV.map openL), (qdt bs st.boxes).map fun x => (x.1, x.2.map openL)⟩
theorem Rel.keep {w0 : Base} {st : St} {a : Act} {w : World} (h : Rel w0 st a w) (ks bs : List Nat) : Rel w0 (st.keep ks bs) a w := by
  obtain ⟨ω, τ, h⟩ := h
  refine ⟨ω, τ, h.defers, by simp [St.keep, qk1, h.size], h.below, h.owned, h.fixed, h.pinned, ?_, ?_⟩
  · intro i p hp
    simp only [St.keep] at hp
    rw [List.getElem?_map, Option.map_eq_some_iff] at hp
    obtain ⟨p0, hp, rfl⟩ := hp
    rw [qk0, Option.map_eq_some_iff] at hp
    obtain ⟨p1, hp, rfl⟩ := hp
    obtain ⟨v, h1, h2⟩ := h.env i p1 hp
    refine ⟨v, h1, SatP.map qk2 ?_⟩
    split
    · exact h2
    · exact trivial
  · intro id ls hl
    simp only [St.keep] at hl
    rw [qe0, Option.map_eq_some_iff] at hl
    obtain ⟨ls0, hl, rfl⟩ := hl
    obtain ⟨b, arr, ty, h1, h2, h3, h4⟩ := h.boxes id ls0 (qib bs id _ _ hl)
    exact ⟨b, arr, ty, h1, h2, h3, h4.map qk2⟩
def qdu (st : St) : List (Nat × Nat × Nat) → Option St
  | [] => some st
  | (s, t, k) :: r =>
    match (st.env.getD s .und).leaf with
    | some (.v (.slice none 0 0)) => if t < giv then qdu ⟨(st.newTok t []).env.set s (.one (.sl (.own t) k [])), (st.newTok t []).boxes⟩ r else none
    | some (.sl (.own s0) k' es) =>
      if t < giv then qdu ⟨(st.map (Leaf.re (qbb s0 t) fun _ => true)).env.set s (.one (.sl (.own t) k' es)), (st.map (Leaf.re (qbb s0 t) fun _ => true)).boxes⟩ r else none
    | _ => none
theorem RelAt.at_slot {w0 : Base} {st : St} {a : Act} {w : World} {ω : Own} {τ : Nat → Nat × Value} (h : RelAt w0 st a w ω τ) {s : Nat} {l : Leaf} (hl : (st.env.getD s .und).leaf = some l) (hne : l ≠ .und) : ∃ v, a.tmps[s]? = some v ∧ Sat w ω τ l v := by
  rw [List.getD_eq_getElem?_getD] at hl
  cases e : st.env[s]? with
  | none => rw [e] at hl; simp only [Option.getD_none, PV.leaf, Option.some.injEq] at hl; exact absurd hl.symm hne
  | some p =>
    rw [e] at hl
    obtain ⟨v, h1, h2⟩ := h.env s p e
    exact ⟨v, h1, PV.leaf_sat hl h2⟩
theorem qk3 {a : Act} {s : Nat} {v : Value} (h : a.tmps[s]? = some v) : a.put (some s) v = a := by
  simp only [Act.put]
  have : a.tmps.setIfInBounds s v = a.tmps := by
    apply Array.ext
    · simp
    · intro i h1 h2
      rw [Array.getElem_setIfInBounds]
      split
      · rename_i hi
        subst hi
        rw [Array.getElem?_eq_getElem h2] at h
        exact (Option.some.inj h).symm
      · rfl
  rw [this]
theorem qfY {w0 : Base} {a : Act} {w : World} : ∀ {ns : List (Nat × Nat × Nat)} {st st' : St}, qdu st ns = some st' → Rel w0 st a w → Rel w0 st' a w
  | [], st, st', h, hr => by simp only [qdu, Option.some.injEq] at h; subst h; exact hr
  | (s, t, k) :: r, st, st', h, hr => by
    simp only [qdu] at h
    split at h
    · rename_i hl
      obtain ⟨ω, τ, hr⟩ := hr
      obtain ⟨v, hv, hs⟩ := hr.at_slot hl (by simp)
      have : v = .slice none 0 0 := hs
      subst this
      split at h
      case isFalse => cases h
      rename_i htg
      obtain ⟨ω', h1, h2⟩ := hr.nilTok t k htg
      have h3 := h1.put (d := s) (p := .one (.sl (.own t) k [])) h2
      rw [qk3 hv] at h3
      exact qfY h ⟨ω', _, h3⟩
    · rename_i s0 k' es hl
      obtain ⟨ω, τ, hr⟩ := hr
      obtain ⟨v, hv, hs⟩ := hr.at_slot hl (by simp)
      split at h
      case isFalse => cases h
      rename_i htg
      have h1 : RelAt w0 (st.map (Leaf.re (qbb s0 t) fun _ => true)) a w (fun b => qbc s0 t 0 (ω b)) (qaU τ t k' v) :=
        hr.turn _ qkE.sat hr.below (fun b hb => hr.owned b (qkC hb)) (fun id b hb => ⟨qfa.2 hb, rfl⟩) (fun id b hb => qfa.1 hb)
          (fun t' ht => by simp only [qaU]; rw [if_neg (by omega)])
      have h3 := h1.put (d := s) (p := .one (.sl (.own t) k' es)) (v := v) ⟨hs.1.frame fun b q _ hq => ⟨by
        simp only [Tag.R] at hq ⊢
        rw [hq]
        cases q with
        | nil => simp [qbc]
        | cons x q => obtain ⟨i, j⟩ := x; simp [qbc], rfl⟩, by simp [Tag.hdr, qaU]⟩
      rw [qk3 hv] at h3
      exact qfY h ⟨_, _, h3⟩
    · cases h
abbrev Ran := Option (Ex × St × List Ans × List Prop)
def run (P : Program) : Code → St → List Ans → Ran
  | .skip, st, ans => some (.normal, st, ans, [])
  | .label _, st, ans => some (.normal, st, ans, [])
  | .region _ ops draw, st, ans => if draw then (qia P ops st ans).map fun r => (.normal, r.1, r.2.1, r.2.2) else (qdp P ops ops.toList st ans).map fun r => (.normal, r.1, r.2.1, r.2.2)
  | .seq a b, st, ans =>
    match run P a st ans with
    | some (.normal, st1, ans1, obs1) => (run P b st1 ans1).map fun r => (r.1, r.2.1, r.2.2.1, obs1 ++ r.2.2.2)
    | some (e, st1, ans1, obs1) => some (e, st1, ans1, obs1)
    | none => none
  | .cond c x y, st, ans =>
    match (st.ev c).leaf, ans with
    | some (.v (.bool true)), ans => run P x st ans
    | some (.v (.bool false)), ans => run P y st ans
    | some (.sb c), .br true :: r => (run P x st r).map fun r => (r.1, r.2.1, r.2.2.1, (c = true) :: r.2.2.2)
    | some (.sb c), .br false :: r => (run P y st r).map fun r => (r.1, r.2.1, r.2.2.1, (c = false) :: r.2.2.2)
    | _, _ => none
  | .block id body, st, ans =>
    match run P body st ans with
    | some (.exit i, st1, ans1, obs1) => some (if i = id then .normal else .exit i, st1, ans1, obs1)
    | r => r
  | .loop body, st, ans =>
    match ans with
    | .loop nils ks bs e st' :: r =>
      match e, qdu st nils with
      | .normal, _ => none
      | e, some st1 => some (e, st', r, [qac P body (st1.keep ks bs) e st'])
      | _, none => none
    | _ => none
  | .exit id, st, ans => some (.exit id, st, ans, [])
  | .ret, st, ans => some (.ret, st, ans, [])
  | _, _, _ => none
theorem qbA {P : Program} : ∀ (c : Code) {st st' : St} {ans ans' : List Ans} {obs : List Prop} {e : Ex}, run P c st ans = some (e, st', ans', obs) → Obs obs → Tr P c st e st'
  | .skip, st, st', ans, ans', obs, e, h, ho => by
    simp only [run, Option.some.injEq, Prod.mk.injEq] at h
    obtain ⟨rfl, rfl, _, _⟩ := h
    exact fun w0 a w hr => wp_skip ⟨rfl, hr⟩
  | .label l, st, st', ans, ans', obs, e, h, ho => by
    simp only [run, Option.some.injEq, Prod.mk.injEq] at h
    obtain ⟨rfl, rfl, _, _⟩ := h
    exact fun w0 a w hr => wp_label ⟨rfl, hr⟩
  | .region id ops draw, st, st', ans, ans', obs, e, h, ho => by
    simp only [run] at h
    split at h
    · rename_i hd
      rw [Option.map_eq_some_iff] at h
      obtain ⟨⟨r1, r2, r3⟩, h1, h⟩ := h
      simp only [Prod.mk.injEq] at h
      obtain ⟨rfl, rfl, rfl, rfl⟩ := h
      subst hd
      exact fun w0 a w hr => qog h1 ho hr fun a' w' h => ⟨rfl, h⟩
    · rename_i hd
      rw [Option.map_eq_some_iff] at h
      obtain ⟨⟨r1, r2, r3⟩, h1, h⟩ := h
      simp only [Prod.mk.injEq] at h
      obtain ⟨rfl, rfl, rfl, rfl⟩ := h
      have : draw = false := by simpa using hd
      subst this
      exact fun w0 a w hr => wp_region_list (qhY _ h1 ho hr fun a' w' h => ⟨rfl, h⟩)
  | .seq x y, st, st', ans, ans', obs, e, h, ho => by
    simp only [run] at h
    split at h
    · rename_i st1 ans1 obs1 h1
      rw [Option.map_eq_some_iff] at h
      obtain ⟨⟨r1, r2, r3, r4⟩, h2, h⟩ := h
      simp only [Prod.mk.injEq] at h
      obtain ⟨rfl, rfl, rfl, rfl⟩ := h
      obtain ⟨o1, o2⟩ := ho.append
      intro w0 a w hr
      refine wp_seq (Code.wp_mono (fun e' a' w' hp => ?_) (qbA x h1 o1 w0 a w hr))
      obtain ⟨rfl, hr'⟩ := hp
      exact qbA y h2 o2 w0 a' w' hr'
    · rename_i e1 st1 ans1 obs1 hne h1
      simp only [Option.some.injEq, Prod.mk.injEq] at h
      obtain ⟨rfl, rfl, rfl, rfl⟩ := h
      intro w0 a w hr
      refine wp_seq (Code.wp_mono (fun e' a' w' hp => ?_) (qbA x h1 ho w0 a w hr))
      obtain ⟨rfl, hr'⟩ := hp
      cases e1 with
      | normal => first | exact (hne rfl).elim | exact (hne _ rfl).elim | exact (hne _ _ _ rfl).elim
      | exit i => exact ⟨rfl, hr'⟩
      | ret => exact ⟨rfl, hr'⟩
    · cases h
  | .cond c x y, st, st', ans, ans', obs, e, h, ho => by
    intro w0 a w hr
    have hr0 := hr
    obtain ⟨ω, τ, hr'⟩ := hr0
    have hsat := hr'.ev c
    simp only [run] at h
    split at h
    · rename_i hl
      have : a.eval c = .bool true := PV.leaf_sat hl hsat
      exact wp_cond_true this (qbA x h ho w0 a w hr)
    · rename_i hl
      have : a.eval c = .bool false := PV.leaf_sat hl hsat
      exact wp_cond_false this (qbA y h ho w0 a w hr)
    · rename_i c' r hl
      rw [Option.map_eq_some_iff] at h
      obtain ⟨⟨r1, r2, r3, r4⟩, h2, h⟩ := h
      simp only [Prod.mk.injEq] at h
      obtain ⟨rfl, rfl, rfl, rfl⟩ := h
      have : a.eval c = .bool c' := PV.leaf_sat hl hsat
      have hc : c' = true := ho.1
      exact wp_cond_true (by rw [this, hc]) (qbA x h2 ho.2 w0 a w hr)
    · rename_i c' r hl
      rw [Option.map_eq_some_iff] at h
      obtain ⟨⟨r1, r2, r3, r4⟩, h2, h⟩ := h
      simp only [Prod.mk.injEq] at h
      obtain ⟨rfl, rfl, rfl, rfl⟩ := h
      have : a.eval c = .bool c' := PV.leaf_sat hl hsat
      have hc : c' = false := ho.1
      exact wp_cond_false (by rw [this, hc]) (qbA y h2 ho.2 w0 a w hr)
    · cases h
  | .block id body, st, st', ans, ans', obs, e, h, ho => by
    intro w0 a w hr
    simp only [run] at h
    split at h
    · rename_i i st1 ans1 obs1 h1
      simp only [Option.some.injEq, Prod.mk.injEq] at h
      obtain ⟨rfl, rfl, rfl, rfl⟩ := h
      refine wp_block (Code.wp_mono (fun e' a' w' hp => ?_) (qbA body h1 ho w0 a w hr))
      obtain ⟨rfl, hr'⟩ := hp
      simp only [Ex.exit', Exit.inBlock]
      split
      · exact ⟨rfl, hr'⟩
      · exact ⟨rfl, hr'⟩
    · rename_i hne
      refine wp_block (Code.wp_mono (fun e' a' w' hp => ?_) (qbA body h ho w0 a w hr))
      obtain ⟨rfl, hr'⟩ := hp
      cases e with
      | normal => exact ⟨rfl, hr'⟩
      | exit i => exact absurd h (hne _ _ _ _)
      | ret => exact ⟨rfl, hr'⟩
  | .loop body, st, st', ans, ans', obs, e, h, ho => by
    intro w0 a w hr
    simp only [run] at h
    split at h
    · rename_i nils ks bs e0 st0 r
      split at h
      · cases h
      · rename_i e1 st1 hne hn
        simp only [Option.some.injEq, Prod.mk.injEq] at h
        obtain ⟨rfl, rfl, rfl, rfl⟩ := h
        obtain ⟨n, hl⟩ := ho.1
        exact wp_loop_rounds n (hl w0 a w ((qfY hn hr).keep ks bs))
      · cases h
    · cases h
  | .exit id, st, st', ans, ans', obs, e, h, ho => by
    simp only [run, Option.some.injEq, Prod.mk.injEq] at h
    obtain ⟨rfl, rfl, _, _⟩ := h
    exact fun w0 a w hr => wp_exit ⟨rfl, hr⟩
  | .ret, st, st', ans, ans', obs, e, h, ho => by
    simp only [run, Option.some.injEq, Prod.mk.injEq] at h
    obtain ⟨rfl, rfl, _, _⟩ := h
    exact fun w0 a w hr => wp_ret ⟨rfl, hr⟩
  | .rangeFunc .., _, _, _, _, _, _, h, _ => by simp [run] at h
  | .scope _, _, _, _, _, _, _, h, _ => by simp [run] at h
  | .goto _, _, _, _, _, _, _, h, _ => by simp [run] at h
  | .refuse _, _, _, _, _, _, _, h, _ => by simp [run] at h
end Go.Sx
namespace Go.Sx
open Go.RowKit
def Leaf.resD : Leaf → D → Option (D × Option Nat)
  | .v x, hint =>
    match x, hint with
    | .slice none 0 0, .sl k _ => some (.sl k [], none)
    | x, _ => if x.oneCell' then some (.v x, none) else none
  | .sb c, _ => some (.v (.bool c), none)
  | .sl (.own t) k es, _ => some (.sl k es, some t)
  | _, _ => none
abbrev Toks := List (Nat × Nat)
def Toks.at (t : Nat) : Toks → Option Nat
  | [] => none
  | (s, n) :: r => if s = t then some n else Toks.at t r
def qfZ (n : Nat) : Option Nat → Toks
  | some t => [(t, n)]
  | none => []
def resLs (n : Nat) : List Leaf → List D → Option (List D × Toks)
  | [], [] => some ([], [])
  | l :: ls, d :: ds =>
    match l.resD d, resLs (n + 1) ls ds with
    | some (d', t), some (ds', ts) => some (d' :: ds', qfZ n t ++ ts)
    | _, _ => none
  | _, _ => none
def resA (n : Nat) : AL → AD → Option (AD × Toks)
  | .one l, .one d => (l.resD d).map fun x => (.one x.1, qfZ n x.2)
  | .agg ls, .agg ds => (resLs n ls ds).map fun x => (.agg x.1, x.2)
  | _, _ => none
def resPs (r : Nat) : List PV → List AD → Option (List AD × Toks)
  | [], [] => some ([], [])
  | .al a :: ps, d :: ds =>
    match resA (100 * r) a d, resPs (r + 1) ps ds with
    | some (d', t), some (ds', ts) => some (d' :: ds', t ++ ts)
    | _, _ => none
  | _, _ => none
def qic (ts : Toks) : Bool := ts.all fun x => match ts.at x.1 with | some n => n == x.2 | none => false
theorem qid {ts : Toks} (h : qic ts = true) {t n : Nat} (hm : (t, n) ∈ ts) : ts.at t = some n := by
  have := List.all_eq_true.1 h _ hm
  simp only at this
  split at this
  · rename_i n' e
    rw [e]
    simp only [beq_iff_eq] at this
    rw [this]
  · cases this
def qa4 (ω : Own) (ts : Toks) : Own := fun b =>
  match ω b with
  | .tok t q => match ts.at t with | some n => .tok n q | none => .imm
  | _ => .imm
theorem Leaf.resD_ok {w : World} {ω : Own} {τ : Nat → Nat × Value} {l : Leaf} {h d : D} {t : Option Nat} {ts : Toks} {n : Nat} {u : Value} (hd : l.resD h = some (d, t)) (hs : Sat w ω τ l u)
    (hts : ∀ s, t = some s → ts.at s = some n) : Rep w (qa4 ω ts) (Tag.own n).R d u := by
  cases l with
  | und => cases hd
  | v x =>
    have e : u = x := hs
    subst e
    simp only [Leaf.resD] at hd
    split at hd
    · simp only [Option.some.injEq, Prod.mk.injEq] at hd
      obtain ⟨rfl, _⟩ := hd
      exact .nil _ _ _
    · split at hd
      · simp only [Option.some.injEq, Prod.mk.injEq] at hd
        obtain ⟨rfl, _⟩ := hd
        exact .v _ _ ‹_›
      · cases hd
  | sb c =>
    have e : u = .bool c := hs
    subst e
    simp only [Leaf.resD, Option.some.injEq, Prod.mk.injEq] at hd
    obtain ⟨rfl, _⟩ := hd
    exact .v _ _ rfl
  | sl g k es =>
    cases g with
    | free => cases hd
    | ro s => cases hd
    | own s =>
      simp only [Leaf.resD, Option.some.injEq, Prod.mk.injEq] at hd
      obtain ⟨rfl, rfl⟩ := hd
      refine hs.1.frame fun b q _ hq => ⟨?_, rfl⟩
      simp only [Tag.R] at hq ⊢
      simp only [qa4, hq, hts s rfl]
  | ptr => cases hd
  | ep => cases hd
  | rp => cases hd
  | fd => cases hd
  | clo => cases hd
  | sn => cases hd
  | np => cases hd
theorem qk4 {n : Nat} {t : Option Nat} {s : Nat} (h : t = some s) : (s, n) ∈ qfZ n t := by subst h; simp [qfZ]
theorem qk5 {w : World} {ω : Own} {τ : Nat → Nat × Value} {ts : Toks} (hts : ∀ t n, (t, n) ∈ ts → ts.at t = some n) : ∀ {ls : List Leaf} {hs ds : List D} {n : Nat} {ts' : Toks}, resLs n ls hs = some (ds, ts') → (∀ x ∈ ts', x ∈ ts) →
    ds.length = ls.length ∧ ∀ (j : Nat) (d : D), ds[j]? = some d → ∃ l, ls[j]? = some l ∧ ∀ u, Sat w ω τ l u → Rep w (qa4 ω ts) (Tag.own (n + j)).R d u
  | [], [], ds, n, ts', h, _ => by
    simp only [resLs, Option.some.injEq, Prod.mk.injEq] at h
    obtain ⟨rfl, _⟩ := h
    exact ⟨rfl, fun j d hd => by simp at hd⟩
  | l :: ls, h0 :: hs, ds, n, ts', h, hsub => by
    simp only [resLs] at h
    split at h
    · rename_i d' t ds' ts2 e1 e2
      simp only [Option.some.injEq, Prod.mk.injEq] at h
      obtain ⟨rfl, rfl⟩ := h
      obtain ⟨h1, h2⟩ := qk5 (w := w) (ω := ω) (τ := τ) hts e2 (fun x hx => hsub x (List.mem_append_right _ hx))
      refine ⟨by simp [h1], fun j d hd => ?_⟩
      cases j with
      | zero =>
        simp at hd; subst hd
        exact ⟨l, rfl, fun u hu => Leaf.resD_ok e1 hu fun s hs' => hts s n (hsub _ (List.mem_append_left _ (qk4 hs')))⟩
      | succ j =>
        obtain ⟨l', h3, h4⟩ := h2 j d (by simpa using hd)
        refine ⟨l', by simpa using h3, fun u hu => ?_⟩
        have := h4 u hu
        rwa [show n + 1 + j = n + (j + 1) by omega] at this
    · cases h
  | [], _ :: _, _, _, _, h, _ => by simp [resLs] at h
  | _ :: _, [], _, _, _, h, _ => by simp [resLs] at h
theorem qoh {w : World} {ω : Own} {τ : Nat → Nat × Value} {ts : Toks} (hts : ∀ t n, (t, n) ∈ ts → ts.at t = some n) {a : AL} {h d : AD} {r : Nat} {ts' : Toks} (hr : resA (100 * r) a h = some (d, ts')) (hsub : ∀ x ∈ ts', x ∈ ts)
    {y : Value} (hs : SatA (Sat w ω τ) a y) : qcM w (qa4 ω ts) r d y := by
  cases a with
  | one l =>
    cases h with
    | agg hs' => cases hr
    | one h0 =>
      simp only [resA, Option.map_eq_some_iff] at hr
      obtain ⟨⟨d', t⟩, h1, h2⟩ := hr
      simp only [Prod.mk.injEq] at h2
      obtain ⟨rfl, rfl⟩ := h2
      exact Leaf.resD_ok h1 hs fun s hs' => hts s _ (hsub _ (qk4 hs'))
  | agg ls =>
    cases h with
    | one h0 => cases hr
    | agg hs' =>
      simp only [resA, Option.map_eq_some_iff] at hr
      obtain ⟨⟨ds, t⟩, h1, h2⟩ := hr
      simp only [Prod.mk.injEq] at h2
      obtain ⟨rfl, rfl⟩ := h2
      obtain ⟨h3, h4⟩ := qk5 (w := w) (ω := ω) (τ := τ) hts h1 hsub
      obtain ⟨vs, rfl, hn, hv⟩ := hs
      refine ⟨vs, rfl, by omega, fun j dd hd => ?_⟩
      obtain ⟨l, hl, hl2⟩ := h4 j dd hd
      obtain ⟨u, hu, hu2⟩ := hv j l hl
      exact ⟨u, hu, hl2 u hu2⟩
theorem qie {w : World} {ω : Own} {τ : Nat → Nat × Value} {ts : Toks} (hts : ∀ t n, (t, n) ∈ ts → ts.at t = some n) : ∀ {ps : List PV} {hs ds : List AD} {r : Nat} {ts' : Toks}, resPs r ps hs = some (ds, ts') → (∀ x ∈ ts', x ∈ ts) →
    ds.length = ps.length ∧ ∀ (j : Nat) (d : AD), ds[j]? = some d → ∃ p, ps[j]? = some p ∧ ∀ u, SatP (Sat w ω τ) p u → qcM w (qa4 ω ts) (r + j) d u
  | [], [], ds, r, ts', h, _ => by
    simp only [resPs, Option.some.injEq, Prod.mk.injEq] at h
    obtain ⟨rfl, _⟩ := h
    exact ⟨rfl, fun j d hd => by simp at hd⟩
  | .al a :: ps, h0 :: hs, ds, r, ts', h, hsub => by
    simp only [resPs] at h
    split at h
    · rename_i d' t ds' ts2 e1 e2
      simp only [Option.some.injEq, Prod.mk.injEq] at h
      obtain ⟨rfl, rfl⟩ := h
      obtain ⟨h1, h2⟩ := qie (w := w) (ω := ω) (τ := τ) hts e2 (fun x hx => hsub x (List.mem_append_right _ hx))
      refine ⟨by simp [h1], fun j d hd => ?_⟩
      cases j with
      | zero =>
        simp at hd; subst hd
        exact ⟨.al a, rfl, fun u hu => qoh hts e1 (fun x hx => hsub x (List.mem_append_left _ hx)) hu⟩
      | succ j =>
        obtain ⟨l', h3, h4⟩ := h2 j d (by simpa using hd)
        refine ⟨l', by simpa using h3, fun u hu => ?_⟩
        have := h4 u hu
        rwa [show r + 1 + j = r + (j + 1) by omega] at this
    · cases h
  | [], _ :: _, _, _, _, h, _ => by simp [resPs] at h
  | .al _ :: _, [], _, _, _, h, _ => by simp [resPs] at h
  | .tup _ :: _, _, _, _, _, h, _ => by simp [resPs] at h
def AD.arg : AD → AL
  | .one d => .one (d.leaf .free)
  | .agg ds => .agg (ds.map (D.leaf .free))
def qez (args : List AD) (ntmps : Nat) : St := ⟨args.map (fun a => .al a.arg) ++ List.replicate (ntmps - args.length) .und, []⟩
theorem qbg.leaf {w : World} {τ : Nat → Nat × Value} {d : D} {u : Value} (h : qbg w d u) : Sat w (fun _ => .imm) τ (d.leaf .free) u := D.leaf_sat (p := (0, 0)) h
theorem qoi {w : World} {args : List AD} {vs : Array Value} (h : qfK w args vs) (ntmps : Nat) :
    Rel (Base.of w) (qez args ntmps) { tmps := vs ++ Array.replicate (ntmps - vs.size) undef, defers := [] } w := by
  refine ⟨fun _ => .imm, fun _ => (0, undef), rfl, by simp [qez, h.1], Bel.refl _, fun b hb => absurd rfl hb, fun _ _ => rfl, (fun _ _ _ h => by cases h), ?_, fun id ls hl => by simp [qez, qaz] at hl⟩
  intro i p hp
  simp only [qez] at hp
  rw [List.getElem?_append, List.length_map] at hp
  split at hp
  · rename_i hi
    rw [List.getElem?_map, Option.map_eq_some_iff] at hp
    obtain ⟨ad, had, rfl⟩ := hp
    obtain ⟨v, hv, hok⟩ := h.2 i ad had
    refine ⟨v, ?_, ?_⟩
    · rw [Array.getElem?_append, if_pos (by rw [h.1]; exact hi)]; exact hv
    · cases ad with
      | one d => exact qbg.leaf hok
      | agg ds =>
        obtain ⟨us, rfl, hn, hu⟩ := hok
        refine ⟨us, rfl, by simpa using hn, fun j l hl => ?_⟩
        rw [List.getElem?_map, Option.map_eq_some_iff] at hl
        obtain ⟨d, hd, rfl⟩ := hl
        obtain ⟨u, h1, h2⟩ := hu j d hd
        exact ⟨u, h1, qbg.leaf h2⟩
  · rename_i hi
    rw [List.getElem?_replicate] at hp
    split at hp
    · rename_i hlt
      simp only [Option.some.injEq] at hp
      subst hp
      refine ⟨undef, ?_, trivial⟩
      rw [Array.getElem?_append, if_neg (by rw [h.1]; exact hi), Array.getElem?_replicate, if_pos (by rw [h.1]; exact hlt)]
    · cases hp
def qc4 (P : Program) (st : St) : ResultVar → Option PV
  | .tmp t => some (st.ev (.tmp t))
  | .cell a t =>
    match qdk P t, P.info? t, (st.ev (.tmp a)).leaf with
    | some agg, some i, some (.ptr id off) =>
      match qaz id st.boxes with
      | some ls => qb5 agg i.size ls off
      | none => none
    | _, _, _ => none
def qfd (tmps : Array Value) : ResultVar → Sem Value
  | .tmp t => pure (tmps.getD t undef)
  | .cell x t => do loadVar t (← asAddr (tmps.getD x undef))
theorem qk6 (fn : Func) (tmps : Array Value) : results fn tmps = (do
    let vs ← fn.results.mapM (qfd tmps)
    pure (if h : vs.size = 1 then vs[0] else .tuple vs)) := by
  unfold results
  have : (fun x => match x with | .tmp t => pure (tmps.getD t undef) | .cell a t => do loadVar t (← asAddr (tmps.getD a undef)) : ResultVar → Sem Value) = qfd tmps := by
    funext x; cases x <;> rfl
  rw [← this]
  rfl
theorem qoj {P : Program} {w0 : Base} {st : St} {a : Act} {w : World} {ω : Own} {τ : Nat → Nat × Value} (hrel : RelAt w0 st a w ω τ) {r : ResultVar} {p : PV} (h : qc4 P st r = some p) :
    ∃ z, (qfd a.tmps r).run P w = .ok z w ∧ SatP (Sat w ω τ) p z := by
  cases r with
  | tmp t =>
    simp only [qc4, Option.some.injEq] at h
    subst h
    exact ⟨_, rfl, hrel.ev (.tmp t)⟩
  | cell x t =>
    simp only [qc4] at h
    split at h
    · rename_i agg i id off e1 e2 e3
      split at h
      · rename_i ls hbx
        have hx := PV.leaf_sat e3 (hrel.ev (.tmp x))
        obtain ⟨b, hb, hx⟩ := hx
        simp only [Act.eval] at hx
        obtain ⟨b', arr, ty, hb', huniq, hheap, hsz, hsat⟩ := hrel.boxes id ls hbx
        have := huniq b hb
        subst this
        have := qer (P := P) e1 e2 h hheap (base := 0) (by omega) (fun j l hl => by simpa using hsat j l hl)
        simpa [qfd, hx, asAddr] using this
      · cases h
    · cases h
def resOf (P : Program) (st : St) (rv : List ResultVar) (hint : List AD) : Option (List AD) :=
  match rv.mapM (qc4 P st) with
  | some ps =>
    match resPs 0 ps hint with
    | some (ds, ts) => if qic ts then some ds else none
    | none => none
  | none => none
theorem qif {P : Program} {w0 : Base} {st : St} {a : Act} {w : World} {ω : Own} {τ : Nat → Nat × Value} (hrel : RelAt w0 st a w ω τ) : ∀ {rv : List ResultVar} {ps : List PV}, rv.mapM (qc4 P st) = some ps →
    ∃ zs : List Value, (rv.mapM (qfd a.tmps)).run P w = .ok zs w ∧ zs.length = ps.length ∧ ∀ (i : Nat) (p : PV), ps[i]? = some p → ∃ z, zs[i]? = some z ∧ SatP (Sat w ω τ) p z
  | [], ps, h => by simp at h; subst h; exact ⟨[], rfl, rfl, fun i p hp => by simp at hp⟩
  | r :: rv, ps, h => by
    rw [List.mapM_cons] at h
    cases e : qc4 P st r with
    | none => simp [e] at h
    | some p0 =>
      cases e2 : rv.mapM (qc4 P st) with
      | none => simp [e, e2] at h
      | some ps0 =>
        simp [e, e2] at h
        subst h
        obtain ⟨z, h1, h2⟩ := qoj hrel e
        obtain ⟨zs, h3, h4, h5⟩ := qif hrel e2
        refine ⟨z :: zs, ?_, by simp [h4], fun i p hp => ?_⟩
        · rw [List.mapM_cons, Sem.run_bind, h1, Result.andThen_ok, Sem.run_bind, h3]
          rfl
        · cases i with
          | zero => simp at hp; subst hp; exact ⟨z, rfl, h2⟩
          | succ i => exact h5 i p (by simpa using hp)
theorem qk7 {P : Program} {f : FuncId} {fn : Func} {c : Code} {args rs : List AD} {ans ans' : List Ans} {obs : List Prop} {e : Ex} {st : St} (hf : P.funcs[f]? = some fn) (hb : fn.body = some c)
    (hrun : run P c (qez args fn.ntmps) ans = some (e, st, ans', obs)) (ho : Obs obs) (he : e = .ret ∨ e = .normal) (hres : resOf P st fn.results.toList rs = some rs) : Ret P f args rs := by
  intro w vs hargs
  refine calls_of_wp hf hb (Code.wp_mono (fun e' a' w' hp => ?_) (qbA c hrun ho (Base.of w) _ w (qoi hargs fn.ntmps)))
  obtain ⟨rfl, ω, τ, hrel⟩ := hp
  unfold resOf at hres
  split at hres
  · rename_i ps hps
    split at hres
    · rename_i ds ts hds
      split at hres
      · rename_i hok
        simp only [Option.some.injEq] at hres
        subst hres
        obtain ⟨zs, h1, h2, h3⟩ := qif hrel hps
        obtain ⟨h4, h5⟩ := qie (w := w') (ω := ω) (τ := τ) (fun t n h => qid hok h) hds (fun x hx => hx)
        have hm := qhl (P := P) _ fn.results w' _ h1
        have hcell : ∀ (j : Nat) (d : AD), ds[j]? = some d → ∃ z, zs[j]? = some z ∧ qcM w' (qa4 ω ts) j d z := by
          intro j d hd
          obtain ⟨p, hp, hp2⟩ := h5 j d hd
          obtain ⟨z, hz, hz2⟩ := h3 j p hp
          exact ⟨z, hz, by have := hp2 z hz2; rwa [Nat.zero_add] at this⟩
        have hzl : zs.length = ds.length := by omega
        have hfin : ∀ v, (if h : zs.toArray.size = 1 then zs.toArray[0] else .tuple zs.toArray) = v → ResOk w w' ds v := by
          intro v hv
          refine ⟨qa4 ω ts, fun b hb => ?_, fun b hb => ?_, ?_⟩
          · cases hω : ω b with
            | imm => simp [qa4, hω]
            | box id => simp [qa4, hω]
            | tok t q =>
              rcases (hrel.owned b (by simp [hω])).1 with h | h
              · exact absurd hb (by have h : w.heap.size ≤ b := h; omega)
              · exact absurd h (fun h => h)
          · cases hω : ω b with
            | imm => simp [qa4, hω] at hb
            | box id => simp [qa4, hω] at hb
            | tok t q =>
              refine ⟨?_, (hrel.owned b (by simp [hω])).2⟩
              simp only [qa4, hω] at hb ⊢
              cases hts : ts.at t with
              | none => simp [hts] at hb
              | some n => exact ⟨n, q, rfl⟩
          · unfold qb7
            split
            · rename_i ad
              obtain ⟨z, hz, hc⟩ := hcell 0 ad rfl
              have h1 : zs.length = 1 := by rw [hzl]; rfl
              have hz0 : zs = [z] := by
                match zs, h1, hz with
                | [z0], _, hz => simp at hz; rw [hz]
              have hvz : v = z := by
                rw [← hv]
                simp [hz0]
              rw [hvz]
              exact hc
            · rename_i hne
              have h1 : ¬ zs.toArray.size = 1 := by
                intro h
                simp at h
                rw [hzl] at h
                obtain ⟨d, hd⟩ := List.length_eq_one_iff.1 h
                exact hne d hd
              rw [dif_neg h1] at hv
              exact ⟨zs.toArray, hv.symm, by simpa using hzl, fun r ad hr => by obtain ⟨z, hz, hc⟩ := hcell r ad hr; exact ⟨z, by simpa using hz, hc⟩⟩
        have hR : ∃ v, (results fn a'.tmps).run P w' = .ok v w' ∧ ∃ u, Ending.returned v = .returned u ∧ Blw w.heap.size w w' ∧ ResOk w w' ds u := by
          refine ⟨_, ?_, _, rfl, hrel.below.below, hfin _ rfl⟩
          rw [qk6, Sem.run_bind, hm]
          rfl
        obtain ⟨v, h6, h7⟩ := hR
        rcases he with rfl | rfl
        · exact ⟨hrel.defers, v, h6, h7⟩
        · exact ⟨hrel.defers, v, h6, h7⟩
      · cases hres
    · cases hres
  · cases hres
end Go.Sx
namespace Go.Sx
open Go.RowKit
def outc (P : Program) (c : Code) (ntmps : Nat) (rv : List ResultVar) (args hint : List AD) (ans : List Ans) : Option (List AD × List Prop) :=
  match run P c (qez args ntmps) ans with
  | some (.ret, st, _, obs) => (resOf P st rv hint).map fun rs => (rs, obs)
  | some (.normal, st, _, obs) => (resOf P st rv hint).map fun rs => (rs, obs)
  | _ => none
def qdv (fn : Func) : Code := fn.body.getD .skip
theorem Ret.of {P : Program} {f : FuncId} {fn : Func} {args rs : List AD} (ans : List Ans) (obs : List Prop) (hf : P.funcs[f]? = some fn) (hb : fn.body.isSome = true)
    (h : outc P (qdv fn) fn.ntmps fn.results.toList args rs ans = some (rs, obs)) (ho : Obs obs) : Ret P f args rs := by
  obtain ⟨c, hc⟩ := Option.isSome_iff_exists.1 hb
  have hcode : qdv fn = c := by simp [qdv, hc]
  unfold outc at h
  rw [hcode] at h
  split at h
  · rename_i st a obs' hr
    rw [Option.map_eq_some_iff] at h
    obtain ⟨rs', h1, h⟩ := h
    simp only [Prod.mk.injEq] at h
    obtain ⟨rfl, rfl⟩ := h
    exact qk7 hf hc hr ho (.inl rfl) h1
  · rename_i st a obs' hr
    rw [Option.map_eq_some_iff] at h
    obtain ⟨rs', h1, h⟩ := h
    simp only [Prod.mk.injEq] at h
    obtain ⟨rfl, rfl⟩ := h
    exact qk7 hf hc hr ho (.inr rfl) h1
  · cases h
def loopc (P : Program) (body : Code) (st : St) (ans : List Ans) (ks bs : List Nat) : Option (Ex × St × List Prop) :=
  (run P body st ans).map fun r => (r.1, r.2.1.keep ks bs, r.2.2.2)
theorem Tr.of_loopc {P : Program} {body : Code} {st st' : St} {ans : List Ans} {ks bs : List Nat} {e : Ex} {obs : List Prop} (h : loopc P body st ans ks bs = some (e, st', obs)) (ho : Obs obs) : Tr P body st e st' := by
  unfold loopc at h
  rw [Option.map_eq_some_iff] at h
  obtain ⟨⟨r1, r2, r3, r4⟩, h1, h⟩ := h
  simp only [Prod.mk.injEq] at h
  obtain ⟨rfl, rfl, rfl⟩ := h
  intro w0 a w hr
  exact Code.wp_mono (fun e' a' w' ⟨h1, h2⟩ => ⟨h1, h2.keep ks bs⟩) (qbA body h1 ho w0 a w hr)
def loopr (P : Program) (body : Code) (st : St) (ans : List Ans) (ns : List (Nat × Nat × Nat)) (ks bs : List Nat) : Option (Ex × St × List Prop) :=
  (run P body st ans).bind fun r => (qdu r.2.1 ns).map fun s => (r.1, s.keep ks bs, r.2.2.2)
theorem Tr.of_loopr {P : Program} {body : Code} {st st' : St} {ans : List Ans} {ns : List (Nat × Nat × Nat)} {ks bs : List Nat} {e : Ex} {obs : List Prop} (h : loopr P body st ans ns ks bs = some (e, st', obs)) (ho : Obs obs) : Tr P body st e st' := by
  unfold loopr at h
  rw [Option.bind_eq_some_iff] at h
  obtain ⟨⟨r1, r2, r3, r4⟩, h1, h⟩ := h
  rw [Option.map_eq_some_iff] at h
  obtain ⟨s, hs, h⟩ := h
  simp only [Prod.mk.injEq] at h
  obtain ⟨rfl, rfl, rfl⟩ := h
  intro w0 a w hr
  exact Code.wp_mono (fun e' a' w' ⟨h1, h2⟩ => ⟨h1, (qfY hs h2).keep ks bs⟩) (qbA body h1 ho w0 a w hr)
theorem qac.step {P : Program} {body : Code} {st st1 st' : St} {e : Ex} (ans : List Ans) (ks bs : List Nat) (obs : List Prop) (h : loopc P body st ans ks bs = some (.normal, st1, obs)) (ho : Obs obs) (h2 : qac P body st1 e st') : qac P body st e st' :=
  .more (Tr.of_loopc h ho) h2
theorem qac.done {P : Program} {body : Code} {st st' : St} {e : Ex} (ans : List Ans) (ks bs : List Nat) (obs : List Prop) (he : e.exit' ≠ .normal) (h : loopc P body st ans ks bs = some (e, st', obs)) (ho : Obs obs) : qac P body st e st' :=
  .last he (Tr.of_loopc h ho)
theorem qah (i : Nat) : (Ex.exit i).exit' ≠ .normal := fun h => by cases h
theorem qaD : Ex.ret.exit' ≠ .normal := fun h => by cases h
def qc5 : Code → List Code
  | .seq a b => qc5 a ++ qc5 b
  | .cond _ a b => qc5 a ++ qc5 b
  | .block _ b => qc5 b
  | .loop b => b :: qc5 b
  | .scope b => qc5 b
  | _ => []
def qaa (fn : Func) (i : Nat) : Code := (qc5 (qdv fn)).getD i .skip
def envOf (n : Nat) (l : List (Nat × PV)) : List PV := l.foldl (fun e x => e.set x.1 x.2) (List.replicate n .und)
abbrev I (n : Int) : D := .v (.int .i64 n)
abbrev B (b : Bool) : D := .v (.bool b)
abbrev Str (s : ByteArray) : D := .v (.string s)
end Go.Sx
