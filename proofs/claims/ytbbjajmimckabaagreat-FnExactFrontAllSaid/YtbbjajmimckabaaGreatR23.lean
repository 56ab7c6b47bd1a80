/- The contract with arguments handed over, out of a run. -/
import Derived.Test.YtbbjajmimckabaaGreatR22
set_option linter.unusedVariables false
set_option linter.unusedSimpArgs false
namespace Go.Sx
open Go.RowKit

/-- What stands at the end where it was handed over, and its token. -/
def GC.found (t : Nat) : GC → Option Leaf → GC × Toks
  | .ro d, _ => (.ro d, [])
  | .gv k es (some _), some (.sl (.own s) k' es') => if s = t ∧ k' = k then (.gv k es (some es'), [(t, t)]) else (.gv k es none, [])
  | .gv k es _, _ => (.gv k es none, [])

def foundL (i : Nat) : Nat → List GC → List Leaf → List GC × Toks
  | _, [], _ => ([], [])
  | j, c :: cs, ls => ((c.found (gTok i j) ls.head?).1 :: (foundL i (j + 1) cs ls.tail).1, (c.found (gTok i j) ls.head?).2 ++ (foundL i (j + 1) cs ls.tail).2)

def GA.found (i : Nat) : GA → PV → GA × Toks
  | .one c, p => (.one (c.found (gTok i 0) p.leaf).1, (c.found (gTok i 0) p.leaf).2)
  | .agg cs, .al (.agg ls) => (.agg (foundL i 0 cs ls).1, (foundL i 0 cs ls).2)
  | .agg cs, _ => (.agg (foundL i 0 cs []).1, (foundL i 0 cs []).2)

def foundAll : Nat → List GA → List PV → List GA × Toks
  | _, [], _ => ([], [])
  | i, a :: as, ps => ((a.found i (ps.headD .und)).1 :: (foundAll (i + 1) as ps.tail).1, (a.found i (ps.headD .und)).2 ++ (foundAll (i + 1) as ps.tail).2)

theorem GC.found_ok {t : Nat} {c : GC} {l : Option Leaf} {k : Nat} {es es' : List (List D)} (h : (c.found t l).1 = .gv k es (some es')) : l = some (.sl (.own t) k es') ∧ (t, t) ∈ (c.found t l).2 := by
  unfold GC.found at h ⊢
  split at h
  · cases h
  · rename_i k0 es0 p s k' es1
    split at h
    · rename_i hc
      obtain ⟨rfl, rfl⟩ := hc
      simp only [GC.gv.injEq, Option.some.injEq] at h
      obtain ⟨rfl, _, rfl⟩ := h
      exact ⟨rfl, by simp⟩
    · cases h
  · cases h

theorem foundL_ok (i : Nat) : ∀ {cs : List GC} {ls : List Leaf} {j x : Nat} {k : Nat} {es es' : List (List D)}, (foundL i j cs ls).1[x]? = some (.gv k es (some es')) →
    ls[x]? = some (.sl (.own (gTok i (j + x))) k es') ∧ (gTok i (j + x), gTok i (j + x)) ∈ (foundL i j cs ls).2
  | [], ls, j, x, k, es, es', h => by simp [foundL] at h
  | c :: cs, ls, j, 0, k, es, es', h => by
    simp only [foundL, List.getElem?_cons_zero, Option.some.injEq] at h
    obtain ⟨h1, h2⟩ := GC.found_ok h
    refine ⟨by cases ls <;> simp_all, ?_⟩
    simp only [foundL]
    exact List.mem_append_left _ h2
  | c :: cs, ls, j, x + 1, k, es, es', h => by
    simp only [foundL, List.getElem?_cons_succ] at h
    obtain ⟨h1, h2⟩ := foundL_ok i h
    rw [show j + 1 + x = j + (x + 1) by omega] at h1 h2
    refine ⟨by cases ls <;> simp_all, ?_⟩
    simp only [foundL]
    exact List.mem_append_right _ h2

def alCell (j : Nat) : AL → Option Leaf
  | .one l => if j = 0 then some l else none
  | .agg ls => ls[j]?

theorem GA.found_ok {i j : Nat} {a : GA} {p : PV} {k : Nat} {es es' : List (List D)} (h : (a.found i p).1.cell j = some (.gv k es (some es'))) :
    ∃ al, p = .al al ∧ alCell j al = some (.sl (.own (gTok i j)) k es') ∧ (gTok i j, gTok i j) ∈ (a.found i p).2 := by
  cases a with
  | one c =>
    simp only [GA.found, GA.cell] at h ⊢
    split at h
    · rename_i hj
      subst hj
      simp only [Option.some.injEq] at h
      obtain ⟨h1, h2⟩ := GC.found_ok h
      cases p with
      | tup as => cases h1
      | al a =>
        cases a with
        | agg ls => cases h1
        | one l =>
          simp only [PV.leaf, Option.some.injEq] at h1
          exact ⟨_, rfl, by simp [alCell, h1], h2⟩
    · cases h
  | agg cs =>
    have none_case : ∀ q : List GC × Toks, q = foundL i 0 cs [] → q.1[j]? = some (.gv k es (some es')) → False := by
      rintro q rfl h
      have := (foundL_ok i h).1
      simp at this
    cases p with
    | tup as => exact (none_case _ rfl h).elim
    | al a =>
      cases a with
      | one l => exact (none_case _ rfl h).elim
      | agg ls =>
        simp only [GA.found, GA.cell] at h ⊢
        obtain ⟨h1, h2⟩ := foundL_ok i h
        rw [Nat.zero_add] at h1 h2
        exact ⟨_, rfl, by simp [alCell, h1], h2⟩

theorem foundAll_ok : ∀ {as : List GA} {ps : List PV} {i x j : Nat} {a : GA} {k : Nat} {es es' : List (List D)}, (foundAll i as ps).1[x]? = some a → a.cell j = some (.gv k es (some es')) →
    ∃ al, ps[x]? = some (.al al) ∧ alCell j al = some (.sl (.own (gTok (i + x) j)) k es') ∧ (gTok (i + x) j, gTok (i + x) j) ∈ (foundAll i as ps).2
  | [], ps, i, x, j, a, k, es, es', h, _ => by simp [foundAll] at h
  | b :: as, ps, i, 0, j, a, k, es, es', h, hc => by
    simp only [foundAll, List.getElem?_cons_zero, Option.some.injEq] at h
    subst h
    obtain ⟨al, h1, h2, h3⟩ := GA.found_ok hc
    refine ⟨al, ?_, h2, ?_⟩
    · cases ps with
      | nil =>
        simp only [List.headD_nil] at h1
        cases h1
        simp only [alCell] at h2
        split at h2 <;> simp at h2
      | cons p ps => simpa using h1
    · simp only [foundAll]
      exact List.mem_append_left _ h3
  | b :: as, ps, i, x + 1, j, a, k, es, es', h, hc => by
    simp only [foundAll, List.getElem?_cons_succ] at h
    obtain ⟨al, h1, h2, h3⟩ := foundAll_ok h hc
    rw [show i + 1 + x = i + (x + 1) by omega] at h2 h3
    refine ⟨al, by cases ps <;> simp_all, h2, ?_⟩
    simp only [foundAll]
    exact List.mem_append_right _ h3

/-- What a run must come to: the results, and what stands of the arguments. -/
def resG (P : Program) (st : St) (rv : List ResultVar) (args : List GA) (hint : List AD) : Option (List AD × List GA) :=
  match rv.mapM (resVar P st) with
  | some ps =>
    match resPs 0 ps hint with
    | some (ds, ts) => if gFits args && toksOk (ts ++ (foundAll 0 args st.env).2) then some (ds, (foundAll 0 args st.env).1) else none
    | none => none
  | none => none

theorem retG_of_run {P : Program} {f : FuncId} {fn : Func} {c : Code} {args : List GA} {rs : List AD} {ans ans' : List Ans} {obs : List Prop} {e : Ex} {st : St} (hf : P.funcs[f]? = some fn) (hb : fn.body = some c)
    (hrun : run P c (initG args fn.ntmps) ans = some (e, st, ans', obs)) (ho : Obs obs) (he : e = .ret ∨ e = .normal) (hres : resG P st fn.results.toList args rs = some (rs, args)) : RetG P f args rs := by
  intro w vs ωg hargs
  unfold resG at hres
  split at hres
  · rename_i ps hps
    split at hres
    · rename_i ds ts hds
      split at hres
      · rename_i hok
        simp only [Option.some.injEq, Prod.mk.injEq] at hres
        obtain ⟨rfl, hfound⟩ := hres
        rw [Bool.and_eq_true] at hok
        obtain ⟨hfit, hok⟩ := hok
        refine calls_of_wp hf hb (Code.wp_mono (fun e' a' w' hp => ?_) (run_ok c hrun ho _ _ w (initG_rel hfit hargs fn.ntmps)))
        obtain ⟨rfl, ω, τ, hrel⟩ := hp
        obtain ⟨zs, h1, h2, h3⟩ := mapM_results hrel hps
        obtain ⟨h4, h5⟩ := resPs_ok (w := w') (ω := ω) (τ := τ) (ts := ts ++ (foundAll 0 args st.env).2) (fun t n h => toksOk_spec hok h) hds (fun x hx => List.mem_append_left _ hx)
        have hm := run_arr_mapM (P := P) _ fn.results w' _ h1
        have hcell : ∀ (j : Nat) (d : AD), ds[j]? = some d → ∃ z, zs[j]? = some z ∧ CellRes w' (resOwn ω (ts ++ (foundAll 0 args st.env).2)) j d z := by
          intro j d hd
          obtain ⟨p, hp, hp2⟩ := h5 j d hd
          obtain ⟨z, hz, hz2⟩ := h3 j p hp
          exact ⟨z, hz, by have := hp2 z hz2; rwa [Nat.zero_add] at this⟩
        have hzl : zs.length = ds.length := by omega
        have hall : ∀ v, (if h : zs.toArray.size = 1 then zs.toArray[0] else .tuple zs.toArray) = v → ResAll w' (resOwn ω (ts ++ (foundAll 0 args st.env).2)) ds v := by
          intro v hv
          unfold ResAll
          split
          · rename_i ad
            obtain ⟨z, hz, hc⟩ := hcell 0 ad rfl
            have h1 : zs.length = 1 := by rw [hzl]; rfl
            have hz0 : zs = [z] := by
              match zs, h1, hz with
              | [z0], _, hz => simp at hz; rw [hz]
            have hvz : v = z := by
              rw [← hv]
              simp [hz0]
            rw [hvz]
            exact hc
          · rename_i hne
            have h1 : ¬ zs.toArray.size = 1 := by
              intro h
              simp at h
              rw [hzl] at h
              obtain ⟨d, hd⟩ := List.length_eq_one_iff.1 h
              exact hne d hd
            rw [dif_neg h1] at hv
            exact ⟨zs.toArray, hv.symm, by simpa using hzl, fun r ad hr => by obtain ⟨z, hz, hc⟩ := hcell r ad hr; exact ⟨z, by simpa using hz, hc⟩⟩
        have hkept : Kept w' (resOwn ω (ts ++ (foundAll 0 args st.env).2)) args vs := by
          intro i j ga k es es' hga hc
          have hga' : (foundAll 0 args st.env).1[i]? = some ga := by rw [hfound]; exact hga
          obtain ⟨al, h6, h7, h8⟩ := foundAll_ok hga' hc
          rw [Nat.zero_add] at h7 h8
          obtain ⟨v, hv, hs⟩ := hrel.env i _ h6
          have hsat : ∃ u, Sat w' ω τ (.sl (.own (gTok i j)) k es') u := by
            cases al with
            | one l =>
              simp only [alCell] at h7
              split at h7
              · simp only [Option.some.injEq] at h7; exact ⟨v, h7 ▸ hs⟩
              · cases h7
            | agg ls =>
              obtain ⟨us, _, _, hu⟩ := hs
              obtain ⟨u, _, h9⟩ := hu j _ h7
              exact ⟨u, h9⟩
          obtain ⟨u, hr, hh⟩ := hsat
          have hj : j < 100 := by
            cases ga with
            | one c => simp only [GA.cell] at hc; split at hc <;> first | omega | cases hc
            | agg cs =>
              have h1 := List.all_eq_true.1 hfit _ (List.mem_of_getElem? hga)
              simp only [decide_eq_true_eq] at h1
              have := (List.getElem?_eq_some_iff.1 hc).1
              omega
          have hfix := hrel.fixed (gTok i j) (by simp [gTok])
          have hgh := gH_at (args := args) (vs := vs) hj hga hc
          have : u = cellOf (vs.getD i undef) j := by
            have h9 : τ (gTok i j) = (k, u) := hh
            rw [hfix] at h9
            have h10 : gH args vs (gTok i j) = (k, u) := h9
            rw [hgh] at h10
            exact (Prod.mk.inj h10).2.symm
          subst this
          refine hr.frame fun b q _ hq => ⟨?_, rfl⟩
          simp only [Tag.R] at hq ⊢
          have := toksOk_spec hok (List.mem_append_right ts h8)
          simp only [resOwn, hq, this]
        have hR : ∃ v, (results fn a'.tmps).run P w' = .ok v w' ∧ ∃ u, Ending.returned v = .returned u ∧ Bel ⟨w, fun b => ωg b ≠ .imm, fun _ => (0, undef)⟩ w' ∧
            ∃ ω' : Own, (∀ b, b < w.heap.size → ωg b = .imm → ω' b = .imm) ∧ (∀ b, ω' b ≠ .imm → (∃ t q, ω' b = .tok t q) ∧ ∃ arr ty, w'.heap[b]? = some (.cells arr ty (0, 0))) ∧ Kept w' ω' args vs ∧ ResAll w' ω' ds u := by
          refine ⟨_, ?_, _, rfl, ⟨hrel.below.os, hrel.below.tape, hrel.below.output, hrel.below.size, hrel.below.block, hrel.below.drawn⟩, resOwn ω (ts ++ (foundAll 0 args st.env).2), fun b hb hg => ?_, fun b hb => ?_, hkept, hall _ rfl⟩
          · rw [results_eq, Sem.run_bind, hm]
            rfl
          · cases hω : ω b with
            | imm => simp [resOwn, hω]
            | box id => simp [resOwn, hω]
            | tok t q =>
              rcases (hrel.owned b (by simp [hω])).1 with h | h
              · exact absurd hb (by have h : w.heap.size ≤ b := h; omega)
              · exact absurd hg h
          · cases hω : ω b with
            | imm => simp [resOwn, hω] at hb
            | box id => simp [resOwn, hω] at hb
            | tok t q =>
              refine ⟨?_, (hrel.owned b (by simp [hω])).2⟩
              simp only [resOwn, hω] at hb ⊢
              cases hts : (ts ++ (foundAll 0 args st.env).2).at t with
              | none => simp [hts] at hb
              | some n => exact ⟨n, q, rfl⟩
        obtain ⟨v, h6, h7⟩ := hR
        rcases he with rfl | rfl
        · exact ⟨hrel.defers, v, h6, h7⟩
        · exact ⟨hrel.defers, v, h6, h7⟩
      · cases hres
    · cases hres
  · cases hres

def outG (P : Program) (c : Code) (ntmps : Nat) (rv : List ResultVar) (args : List GA) (hint : List AD) (ans : List Ans) : Option (List AD × List GA × List Prop) :=
  match run P c (initG args ntmps) ans with
  | some (.ret, st, _, obs) => (resG P st rv args hint).map fun rs => (rs.1, rs.2, obs)
  | some (.normal, st, _, obs) => (resG P st rv args hint).map fun rs => (rs.1, rs.2, obs)
  | _ => none

/-- The contract of a function that is handed arguments: its run, computed, and what that owes. -/
theorem RetG.of {P : Program} {f : FuncId} {fn : Func} {args : List GA} {rs : List AD} (ans : List Ans) (obs : List Prop) (hf : P.funcs[f]? = some fn) (hb : fn.body.isSome = true)
    (h : outG P (codeOf fn) fn.ntmps fn.results.toList args rs ans = some (rs, args, obs)) (ho : Obs obs) : RetG P f args rs := by
  obtain ⟨c, hc⟩ := Option.isSome_iff_exists.1 hb
  have hcode : codeOf fn = c := by simp [codeOf, hc]
  unfold outG at h
  rw [hcode] at h
  split at h
  · rename_i st a obs' hr
    rw [Option.map_eq_some_iff] at h
    obtain ⟨⟨rs1, rs2⟩, h1, h⟩ := h
    simp only [Prod.mk.injEq] at h
    obtain ⟨rfl, rfl, rfl⟩ := h
    exact retG_of_run hf hc hr ho (.inl rfl) h1
  · rename_i st a obs' hr
    rw [Option.map_eq_some_iff] at h
    obtain ⟨⟨rs1, rs2⟩, h1, h⟩ := h
    simp only [Prod.mk.injEq] at h
    obtain ⟨rfl, rfl, rfl⟩ := h
    exact retG_of_run hf hc hr ho (.inr rfl) h1
  · cases h
end Go.Sx
