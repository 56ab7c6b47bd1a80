/- The contract of a function out of a run of its body. -/
import Derived.Test.YtamiheofgejehaaR15
set_option linter.unusedVariables false
set_option linter.unusedSimpArgs false
namespace Go.Sx
open Go.RowKit

def Leaf.resD : Leaf → D → Option (D × Option Nat)
  | .v x, hint =>
    match x, hint with
    | .slice none 0 0, .sl k _ => some (.sl k [], none)
    | x, _ => if x.oneCell' then some (.v x, none) else none
  | .sb c, _ => some (.v (.bool c), none)
  | .sl (.own t) k es, _ => some (.sl k es, some t)
  | _, _ => none

/-- Tokens, and the number of the result cell in which each stands. -/
abbrev Toks := List (Nat × Nat)

def Toks.at (t : Nat) : Toks → Option Nat
  | [] => none
  | (s, n) :: r => if s = t then some n else Toks.at t r

def toksOf (n : Nat) : Option Nat → Toks
  | some t => [(t, n)]
  | none => []

def resLs (n : Nat) : List Leaf → List D → Option (List D × Toks)
  | [], [] => some ([], [])
  | l :: ls, d :: ds =>
    match l.resD d, resLs (n + 1) ls ds with
    | some (d', t), some (ds', ts) => some (d' :: ds', toksOf n t ++ ts)
    | _, _ => none
  | _, _ => none

def resA (n : Nat) : AL → AD → Option (AD × Toks)
  | .one l, .one d => (l.resD d).map fun x => (.one x.1, toksOf n x.2)
  | .agg ls, .agg ds => (resLs n ls ds).map fun x => (.agg x.1, x.2)
  | _, _ => none

def resPs (r : Nat) : List PV → List AD → Option (List AD × Toks)
  | [], [] => some ([], [])
  | .al a :: ps, d :: ds =>
    match resA (100 * r) a d, resPs (r + 1) ps ds with
    | some (d', t), some (ds', ts) => some (d' :: ds', t ++ ts)
    | _, _ => none
  | _, _ => none

def toksOk (ts : Toks) : Bool := ts.all fun x => match ts.at x.1 with | some n => n == x.2 | none => false

theorem toksOk_spec {ts : Toks} (h : toksOk ts = true) {t n : Nat} (hm : (t, n) ∈ ts) : ts.at t = some n := by
  have := List.all_eq_true.1 h _ hm
  simp only at this
  split at this
  · rename_i n' e
    rw [e]
    simp only [beq_iff_eq] at this
    rw [this]
  · cases this

def resOwn (ω : Own) (ts : Toks) : Own := fun b =>
  match ω b with
  | .tok t q => match ts.at t with | some n => .tok n q | none => .imm
  | _ => .imm

theorem Leaf.resD_ok {w : World} {ω : Own} {τ : Nat → Nat × Value} {l : Leaf} {h d : D} {t : Option Nat} {ts : Toks} {n : Nat} {u : Value} (hd : l.resD h = some (d, t)) (hs : Sat w ω τ l u)
    (hts : ∀ s, t = some s → ts.at s = some n) : Rep w (resOwn ω ts) (Tag.own n).R d u := by
  cases l with
  | und => cases hd
  | v x =>
    have e : u = x := hs
    subst e
    simp only [Leaf.resD] at hd
    split at hd
    · simp only [Option.some.injEq, Prod.mk.injEq] at hd
      obtain ⟨rfl, _⟩ := hd
      exact .nil _ _ _
    · split at hd
      · simp only [Option.some.injEq, Prod.mk.injEq] at hd
        obtain ⟨rfl, _⟩ := hd
        exact .v _ _ ‹_›
      · cases hd
  | sb c =>
    have e : u = .bool c := hs
    subst e
    simp only [Leaf.resD, Option.some.injEq, Prod.mk.injEq] at hd
    obtain ⟨rfl, _⟩ := hd
    exact .v _ _ rfl
  | sl g k es =>
    cases g with
    | free => cases hd
    | ro s => cases hd
    | own s =>
      simp only [Leaf.resD, Option.some.injEq, Prod.mk.injEq] at hd
      obtain ⟨rfl, rfl⟩ := hd
      refine hs.1.frame fun b q _ hq => ⟨?_, rfl⟩
      simp only [Tag.R] at hq ⊢
      simp only [resOwn, hq, hts s rfl]
  | ptr => cases hd
  | ep => cases hd

theorem mem_toksOf {n : Nat} {t : Option Nat} {s : Nat} (h : t = some s) : (s, n) ∈ toksOf n t := by subst h; simp [toksOf]

theorem resLs_ok {w : World} {ω : Own} {τ : Nat → Nat × Value} {ts : Toks} (hts : ∀ t n, (t, n) ∈ ts → ts.at t = some n) : ∀ {ls : List Leaf} {hs ds : List D} {n : Nat} {ts' : Toks}, resLs n ls hs = some (ds, ts') → (∀ x ∈ ts', x ∈ ts) →
    ds.length = ls.length ∧ ∀ (j : Nat) (d : D), ds[j]? = some d → ∃ l, ls[j]? = some l ∧ ∀ u, Sat w ω τ l u → Rep w (resOwn ω ts) (Tag.own (n + j)).R d u
  | [], [], ds, n, ts', h, _ => by
    simp only [resLs, Option.some.injEq, Prod.mk.injEq] at h
    obtain ⟨rfl, _⟩ := h
    exact ⟨rfl, fun j d hd => by simp at hd⟩
  | l :: ls, h0 :: hs, ds, n, ts', h, hsub => by
    simp only [resLs] at h
    split at h
    · rename_i d' t ds' ts2 e1 e2
      simp only [Option.some.injEq, Prod.mk.injEq] at h
      obtain ⟨rfl, rfl⟩ := h
      obtain ⟨h1, h2⟩ := resLs_ok (w := w) (ω := ω) (τ := τ) hts e2 (fun x hx => hsub x (List.mem_append_right _ hx))
      refine ⟨by simp [h1], fun j d hd => ?_⟩
      cases j with
      | zero =>
        simp at hd; subst hd
        exact ⟨l, rfl, fun u hu => Leaf.resD_ok e1 hu fun s hs' => hts s n (hsub _ (List.mem_append_left _ (mem_toksOf hs')))⟩
      | succ j =>
        obtain ⟨l', h3, h4⟩ := h2 j d (by simpa using hd)
        refine ⟨l', by simpa using h3, fun u hu => ?_⟩
        have := h4 u hu
        rwa [show n + 1 + j = n + (j + 1) by omega] at this
    · cases h
  | [], _ :: _, _, _, _, h, _ => by simp [resLs] at h
  | _ :: _, [], _, _, _, h, _ => by simp [resLs] at h

theorem resA_ok {w : World} {ω : Own} {τ : Nat → Nat × Value} {ts : Toks} (hts : ∀ t n, (t, n) ∈ ts → ts.at t = some n) {a : AL} {h d : AD} {r : Nat} {ts' : Toks} (hr : resA (100 * r) a h = some (d, ts')) (hsub : ∀ x ∈ ts', x ∈ ts)
    {y : Value} (hs : SatA (Sat w ω τ) a y) : CellRes w (resOwn ω ts) r d y := by
  cases a with
  | one l =>
    cases h with
    | agg hs' => cases hr
    | one h0 =>
      simp only [resA, Option.map_eq_some_iff] at hr
      obtain ⟨⟨d', t⟩, h1, h2⟩ := hr
      simp only [Prod.mk.injEq] at h2
      obtain ⟨rfl, rfl⟩ := h2
      exact Leaf.resD_ok h1 hs fun s hs' => hts s _ (hsub _ (mem_toksOf hs'))
  | agg ls =>
    cases h with
    | one h0 => cases hr
    | agg hs' =>
      simp only [resA, Option.map_eq_some_iff] at hr
      obtain ⟨⟨ds, t⟩, h1, h2⟩ := hr
      simp only [Prod.mk.injEq] at h2
      obtain ⟨rfl, rfl⟩ := h2
      obtain ⟨h3, h4⟩ := resLs_ok (w := w) (ω := ω) (τ := τ) hts h1 hsub
      obtain ⟨vs, rfl, hn, hv⟩ := hs
      refine ⟨vs, rfl, by omega, fun j dd hd => ?_⟩
      obtain ⟨l, hl, hl2⟩ := h4 j dd hd
      obtain ⟨u, hu, hu2⟩ := hv j l hl
      exact ⟨u, hu, hl2 u hu2⟩

theorem resPs_ok {w : World} {ω : Own} {τ : Nat → Nat × Value} {ts : Toks} (hts : ∀ t n, (t, n) ∈ ts → ts.at t = some n) : ∀ {ps : List PV} {hs ds : List AD} {r : Nat} {ts' : Toks}, resPs r ps hs = some (ds, ts') → (∀ x ∈ ts', x ∈ ts) →
    ds.length = ps.length ∧ ∀ (j : Nat) (d : AD), ds[j]? = some d → ∃ p, ps[j]? = some p ∧ ∀ u, SatP (Sat w ω τ) p u → CellRes w (resOwn ω ts) (r + j) d u
  | [], [], ds, r, ts', h, _ => by
    simp only [resPs, Option.some.injEq, Prod.mk.injEq] at h
    obtain ⟨rfl, _⟩ := h
    exact ⟨rfl, fun j d hd => by simp at hd⟩
  | .al a :: ps, h0 :: hs, ds, r, ts', h, hsub => by
    simp only [resPs] at h
    split at h
    · rename_i d' t ds' ts2 e1 e2
      simp only [Option.some.injEq, Prod.mk.injEq] at h
      obtain ⟨rfl, rfl⟩ := h
      obtain ⟨h1, h2⟩ := resPs_ok (w := w) (ω := ω) (τ := τ) hts e2 (fun x hx => hsub x (List.mem_append_right _ hx))
      refine ⟨by simp [h1], fun j d hd => ?_⟩
      cases j with
      | zero =>
        simp at hd; subst hd
        exact ⟨.al a, rfl, fun u hu => resA_ok hts e1 (fun x hx => hsub x (List.mem_append_left _ hx)) hu⟩
      | succ j =>
        obtain ⟨l', h3, h4⟩ := h2 j d (by simpa using hd)
        refine ⟨l', by simpa using h3, fun u hu => ?_⟩
        have := h4 u hu
        rwa [show r + 1 + j = r + (j + 1) by omega] at this
    · cases h
  | [], _ :: _, _, _, _, h, _ => by simp [resPs] at h
  | .al _ :: _, [], _, _, _, h, _ => by simp [resPs] at h
  | .tup _ :: _, _, _, _, _, h, _ => by simp [resPs] at h

def AD.arg : AD → AL
  | .one d => .one (d.leaf .free)
  | .agg ds => .agg (ds.map (D.leaf .free))

def initSt (args : List AD) (ntmps : Nat) : St := ⟨args.map (fun a => .al a.arg) ++ List.replicate (ntmps - args.length) .und, []⟩

theorem FreeRep.leaf {w : World} {τ : Nat → Nat × Value} {d : D} {u : Value} (h : FreeRep w d u) : Sat w (fun _ => .imm) τ (d.leaf .free) u := D.leaf_sat (p := (0, 0)) h

theorem init_rel {w : World} {args : List AD} {vs : Array Value} (h : ArgsOk w args vs) (ntmps : Nat) :
    Rel w (initSt args ntmps) { tmps := vs ++ Array.replicate (ntmps - vs.size) undef, defers := [] } w := by
  refine ⟨fun _ => .imm, fun _ => (0, undef), rfl, by simp [initSt, h.1], Below.refl _ _, fun b hb => absurd rfl hb, ?_, fun id ls hl => by simp [initSt, getBox] at hl⟩
  intro i p hp
  simp only [initSt] at hp
  rw [List.getElem?_append, List.length_map] at hp
  split at hp
  · rename_i hi
    rw [List.getElem?_map, Option.map_eq_some_iff] at hp
    obtain ⟨ad, had, rfl⟩ := hp
    obtain ⟨v, hv, hok⟩ := h.2 i ad had
    refine ⟨v, ?_, ?_⟩
    · rw [Array.getElem?_append, if_pos (by rw [h.1]; exact hi)]; exact hv
    · cases ad with
      | one d => exact FreeRep.leaf hok
      | agg ds =>
        obtain ⟨us, rfl, hn, hu⟩ := hok
        refine ⟨us, rfl, by simpa using hn, fun j l hl => ?_⟩
        rw [List.getElem?_map, Option.map_eq_some_iff] at hl
        obtain ⟨d, hd, rfl⟩ := hl
        obtain ⟨u, h1, h2⟩ := hu j d hd
        exact ⟨u, h1, FreeRep.leaf h2⟩
  · rename_i hi
    rw [List.getElem?_replicate] at hp
    split at hp
    · rename_i hlt
      simp only [Option.some.injEq] at hp
      subst hp
      refine ⟨undef, ?_, trivial⟩
      rw [Array.getElem?_append, if_neg (by rw [h.1]; exact hi), Array.getElem?_replicate, if_pos (by rw [h.1]; exact hlt)]
    · cases hp

def resVar (P : Program) (st : St) : ResultVar → Option PV
  | .tmp t => some (st.ev (.tmp t))
  | .cell a t =>
    match isAggT P t, P.info? t, (st.ev (.tmp a)).leaf with
    | some agg, some i, some (.ptr id off) =>
      match getBox id st.boxes with
      | some ls => loaded agg i.size ls off
      | none => none
    | _, _, _ => none

def resGet (tmps : Array Value) : ResultVar → Sem Value
  | .tmp t => pure (tmps.getD t undef)
  | .cell x t => do loadVar t (← asAddr (tmps.getD x undef))

theorem results_eq (fn : Func) (tmps : Array Value) : results fn tmps = (do
    let vs ← fn.results.mapM (resGet tmps)
    pure (if h : vs.size = 1 then vs[0] else .tuple vs)) := by
  unfold results
  have : (fun x => match x with | .tmp t => pure (tmps.getD t undef) | .cell a t => do loadVar t (← asAddr (tmps.getD a undef)) : ResultVar → Sem Value) = resGet tmps := by
    funext x; cases x <;> rfl
  rw [← this]
  rfl

theorem resVar_ok {P : Program} {w0 : World} {st : St} {a : Act} {w : World} {ω : Own} {τ : Nat → Nat × Value} (hrel : RelAt w0 st a w ω τ) {r : ResultVar} {p : PV} (h : resVar P st r = some p) :
    ∃ z, (resGet a.tmps r).run P w = .ok z w ∧ SatP (Sat w ω τ) p z := by
  cases r with
  | tmp t =>
    simp only [resVar, Option.some.injEq] at h
    subst h
    exact ⟨_, rfl, hrel.ev (.tmp t)⟩
  | cell x t =>
    simp only [resVar] at h
    split at h
    · rename_i agg i id off e1 e2 e3
      split at h
      · rename_i ls hbx
        have hx := PV.leaf_sat e3 (hrel.ev (.tmp x))
        obtain ⟨b, hb, hx⟩ := hx
        simp only [Act.eval] at hx
        obtain ⟨b', arr, ty, hb', huniq, hheap, hsz, hsat⟩ := hrel.boxes id ls hbx
        have := huniq b hb
        subst this
        have := loaded_ok (P := P) e1 e2 h hheap (base := 0) (by omega) (fun j l hl => by simpa using hsat j l hl)
        simpa [resGet, hx, asAddr] using this
      · cases h
    · cases h

/-- What a run must come to. -/
def resOf (P : Program) (st : St) (rv : List ResultVar) (hint : List AD) : Option (List AD) :=
  match rv.mapM (resVar P st) with
  | some ps =>
    match resPs 0 ps hint with
    | some (ds, ts) => if toksOk ts then some ds else none
    | none => none
  | none => none

theorem mapM_results {P : Program} {w0 : World} {st : St} {a : Act} {w : World} {ω : Own} {τ : Nat → Nat × Value} (hrel : RelAt w0 st a w ω τ) : ∀ {rv : List ResultVar} {ps : List PV}, rv.mapM (resVar P st) = some ps →
    ∃ zs : List Value, (rv.mapM (resGet a.tmps)).run P w = .ok zs w ∧ zs.length = ps.length ∧ ∀ (i : Nat) (p : PV), ps[i]? = some p → ∃ z, zs[i]? = some z ∧ SatP (Sat w ω τ) p z
  | [], ps, h => by simp at h; subst h; exact ⟨[], rfl, rfl, fun i p hp => by simp at hp⟩
  | r :: rv, ps, h => by
    rw [List.mapM_cons] at h
    cases e : resVar P st r with
    | none => simp [e] at h
    | some p0 =>
      cases e2 : rv.mapM (resVar P st) with
      | none => simp [e, e2] at h
      | some ps0 =>
        simp [e, e2] at h
        subst h
        obtain ⟨z, h1, h2⟩ := resVar_ok hrel e
        obtain ⟨zs, h3, h4, h5⟩ := mapM_results hrel e2
        refine ⟨z :: zs, ?_, by simp [h4], fun i p hp => ?_⟩
        · rw [List.mapM_cons, Sem.run_bind, h1, Result.andThen_ok, Sem.run_bind, h3]
          rfl
        · cases i with
          | zero => simp at hp; subst hp; exact ⟨z, rfl, h2⟩
          | succ i => exact h5 i p (by simpa using hp)

/-- THE CONTRACT OF A FUNCTION, out of a run of its body. -/
theorem ret_of_run {P : Program} {f : FuncId} {fn : Func} {c : Code} {args rs : List AD} {ans ans' : List Ans} {obs : List Prop} {e : Ex} {st : St} (hf : P.funcs[f]? = some fn) (hb : fn.body = some c)
    (hrun : run P c (initSt args fn.ntmps) ans = some (e, st, ans', obs)) (ho : Obs obs) (he : e = .ret ∨ e = .normal) (hres : resOf P st fn.results.toList rs = some rs) : Ret P f args rs := by
  intro w vs hargs
  refine calls_of_wp hf hb (Code.wp_mono (fun e' a' w' hp => ?_) (run_ok c hrun ho w _ w (init_rel hargs fn.ntmps)))
  obtain ⟨rfl, ω, τ, hrel⟩ := hp
  unfold resOf at hres
  split at hres
  · rename_i ps hps
    split at hres
    · rename_i ds ts hds
      split at hres
      · rename_i hok
        simp only [Option.some.injEq] at hres
        subst hres
        obtain ⟨zs, h1, h2, h3⟩ := mapM_results hrel hps
        obtain ⟨h4, h5⟩ := resPs_ok (w := w') (ω := ω) (τ := τ) (fun t n h => toksOk_spec hok h) hds (fun x hx => hx)
        have hm := run_arr_mapM (P := P) _ fn.results w' _ h1
        have hcell : ∀ (j : Nat) (d : AD), ds[j]? = some d → ∃ z, zs[j]? = some z ∧ CellRes w' (resOwn ω ts) j d z := by
          intro j d hd
          obtain ⟨p, hp, hp2⟩ := h5 j d hd
          obtain ⟨z, hz, hz2⟩ := h3 j p hp
          exact ⟨z, hz, by have := hp2 z hz2; rwa [Nat.zero_add] at this⟩
        have hzl : zs.length = ds.length := by omega
        have hfin : ∀ v, (if h : zs.toArray.size = 1 then zs.toArray[0] else .tuple zs.toArray) = v → ResOk w w' ds v := by
          intro v hv
          refine ⟨resOwn ω ts, fun b hb => ?_, fun b hb => ?_, ?_⟩
          · cases hω : ω b with
            | imm => simp [resOwn, hω]
            | box id => simp [resOwn, hω]
            | tok t q => have := (hrel.owned b (by simp [hω])).1; omega
          · cases hω : ω b with
            | imm => simp [resOwn, hω] at hb
            | box id => simp [resOwn, hω] at hb
            | tok t q =>
              refine ⟨?_, (hrel.owned b (by simp [hω])).2⟩
              simp only [resOwn, hω] at hb ⊢
              cases hts : ts.at t with
              | none => simp [hts] at hb
              | some n => exact ⟨n, q, rfl⟩
          · unfold ResAll
            split
            · rename_i ad
              obtain ⟨z, hz, hc⟩ := hcell 0 ad rfl
              have h1 : zs.length = 1 := by rw [hzl]; rfl
              have hz0 : zs = [z] := by
                match zs, h1, hz with
                | [z0], _, hz => simp at hz; rw [hz]
              have hvz : v = z := by
                rw [← hv]
                simp [hz0]
              rw [hvz]
              exact hc
            · rename_i hne
              have h1 : ¬ zs.toArray.size = 1 := by
                intro h
                simp at h
                rw [hzl] at h
                obtain ⟨d, hd⟩ := List.length_eq_one_iff.1 h
                exact hne d hd
              rw [dif_neg h1] at hv
              exact ⟨zs.toArray, hv.symm, by simpa using hzl, fun r ad hr => by obtain ⟨z, hz, hc⟩ := hcell r ad hr; exact ⟨z, by simpa using hz, hc⟩⟩
        have hR : ∃ v, (results fn a'.tmps).run P w' = .ok v w' ∧ ∃ u, Ending.returned v = .returned u ∧ Below w.heap.size w w' ∧ ResOk w w' ds u := by
          refine ⟨_, ?_, _, rfl, hrel.below, hfin _ rfl⟩
          rw [results_eq, Sem.run_bind, hm]
          rfl
        obtain ⟨v, h6, h7⟩ := hR
        rcases he with rfl | rfl
        · exact ⟨hrel.defers, v, h6, h7⟩
        · exact ⟨hrel.defers, v, h6, h7⟩
      · cases hres
    · cases hres
  · cases hres
end Go.Sx
