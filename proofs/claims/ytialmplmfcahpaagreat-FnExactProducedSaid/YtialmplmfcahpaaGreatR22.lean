/- Arguments that are handed over: trees of slices that the callee may write. -/
import Derived.Test.YtialmplmfcahpaaGreatR15
set_option linter.unusedVariables false
set_option linter.unusedSimpArgs false
namespace Go.Sx
open Go.RowKit
def GC.leaf (t : Nat) : GC → Leaf
  | .ro d => d.leaf .free
  | .gv k es _ => .sl (.own t) k es
def qc9 (i : Nat) : Nat → List GC → List Leaf
  | _, [] => []
  | j, c :: cs => c.leaf (gTok i j) :: qc9 i (j + 1) cs
def GA.al (i : Nat) : GA → AL
  | .one c => .one (c.leaf (gTok i 0))
  | .agg cs => .agg (qc9 i 0 cs)
def gEnv : Nat → List GA → List PV
  | _, [] => []
  | i, a :: as => .al (a.al i) :: gEnv (i + 1) as
def initG (args : List GA) (ntmps : Nat) : St := ⟨gEnv 0 args ++ List.replicate (ntmps - args.length) .und, []⟩
def GC.post : GC → Leaf → GC
  | .gv k es (some _), .sl (.own _) k' es' => if k' = k then .gv k es (some es') else .gv k es none
  | .gv k es _, _ => .gv k es none
  | c, _ => c
def gFits (args : List GA) : Bool := args.all fun | .one _ => true | .agg cs => decide (cs.length ≤ 100)
def gK (args : List GA) (t : Nat) : Nat :=
  match (args[(t - giv) / 100]?).bind (GA.cell ((t - giv) % 100)) with
  | some (.gv k _ _) => k
  | _ => 0
def gH (args : List GA) (vs : Array Value) (t : Nat) : Nat × Value := (gK args t, cellOf (vs.getD ((t - giv) / 100) undef) ((t - giv) % 100))
theorem gH_at {args : List GA} {vs : Array Value} {i j : Nat} (hj : j < 100) {ga : GA} (ha : args[i]? = some ga) {k : Nat} {es : List (List D)} {post : Option (List (List D))} (hc : ga.cell j = some (.gv k es post)) :
    gH args vs (gTok i j) = (k, cellOf (vs.getD i undef) j) := by
  have e1 : (gTok i j - giv) / 100 = i := by simp only [gTok]; omega
  have e2 : (gTok i j - giv) % 100 = j := by simp only [gTok]; omega
  simp only [gH, gK, e1, e2, ha, Option.bind_some, hc]
theorem qlh (i : Nat) : ∀ (cs : List GC) (j x : Nat), (qc9 i j cs)[x]? = (cs[x]?).map fun c => c.leaf (gTok i (j + x))
  | [], j, x => by simp [qc9]
  | c :: cs, j, 0 => by simp [qc9]
  | c :: cs, j, x + 1 => by
    simp only [qc9, List.getElem?_cons_succ, qlh i cs (j + 1) x]
    rw [show j + 1 + x = j + (x + 1) by omega]
theorem qli (i : Nat) : ∀ (cs : List GC) (j : Nat), (qc9 i j cs).length = cs.length
  | [], _ => rfl
  | c :: cs, j => by simp [qc9, qli i cs (j + 1)]
theorem qlj : ∀ (as : List GA) (i x : Nat), (gEnv i as)[x]? = (as[x]?).map fun a => .al (a.al (i + x))
  | [], i, x => by simp [gEnv]
  | a :: as, i, 0 => by simp [gEnv]
  | a :: as, i, x + 1 => by
    simp only [gEnv, List.getElem?_cons_succ, qlj as (i + 1) x]
    rw [show i + 1 + x = i + (x + 1) by omega]
theorem qis : ∀ (as : List GA) (i : Nat), (gEnv i as).length = as.length
  | [], _ => rfl
  | a :: as, i => by simp [gEnv, qis as (i + 1)]
theorem GcOk.sat {w : World} {ω : Own} {τ : Nat → Nat × Value} {t : Nat} {c : GC} {y : Value} (h : GcOk w ω t c y) (hτ : ∀ k es post, c = .gv k es post → τ t = (k, y)) : Sat w ω τ (c.leaf t) y := by
  cases c with
  | ro d => exact D.leaf_sat (t := .free) (p := (0, 0)) h
  | gv k es post => exact ⟨h, hτ k es post rfl⟩
theorem qoJ {w : World} {ω : Own} {args : List GA} {vs : Array Value} (hfit : gFits args = true) (h : GasOk w ω args vs) (ntmps : Nat) :
    Rel ⟨w, fun b => ω b ≠ .imm, gH args vs⟩ (initG args ntmps) { tmps := vs ++ Array.replicate (ntmps - vs.size) undef, defers := [] } w := by
  obtain ⟨hg, hn, ha⟩ := h
  refine ⟨ω, gH args vs, rfl, by simp [initG, hn, qis], Bel.refl _, fun b hb => ⟨.inr hb, (hg b hb).2⟩, fun _ _ => rfl, (fun id b _ hb => by
    obtain ⟨⟨t, q, e, _⟩, _⟩ := hg b (by rw [hb]; simp)
    rw [hb] at e; cases e), ?_, fun id ls hl => by simp [initG, qaz] at hl⟩
  intro i p hp
  simp only [initG] at hp
  rw [List.getElem?_append, qis] at hp
  split at hp
  · rename_i hi
    rw [qlj, Option.map_eq_some_iff] at hp
    obtain ⟨ga, hga, rfl⟩ := hp
    rw [Nat.zero_add]
    obtain ⟨v, hv, hok⟩ := ha i ga hga
    have hi' : i < vs.size := by omega
    refine ⟨v, by rw [Array.getElem?_append, if_pos hi', hv], ?_⟩
    have hvi : vs.getD i undef = v := by simp [Array.getD_eq_getD_getElem?, hv]
    cases ga with
    | one c =>
      refine GcOk.sat hok fun k es post hc => ?_
      have := gH_at (args := args) (vs := vs) (i := i) (j := 0) (by omega) hga (k := k) (es := es) (post := post) (by simp [GA.cell, hc])
      rw [this, hvi]
      subst hc
      have hr : Rep w ω (Tag.own (gTok i 0)).R (.sl k es) v := hok
      obtain ⟨b, c, rfl⟩ := hr.len
      rfl
    | agg cs =>
      obtain ⟨us, rfl, hlen, hcs⟩ := hok
      refine ⟨us, rfl, by rw [qli]; exact hlen, fun j l hl => ?_⟩
      rw [qlh, Option.map_eq_some_iff] at hl
      obtain ⟨c, hc, rfl⟩ := hl
      rw [Nat.zero_add]
      obtain ⟨u, hu, hok⟩ := hcs j c hc
      have hj : j < 100 := by
        have h1 := List.all_eq_true.1 hfit _ (List.mem_of_getElem? hga)
        simp only [decide_eq_true_eq] at h1
        have := (List.getElem?_eq_some_iff.1 hc).1
        omega
      refine ⟨u, hu, GcOk.sat hok fun k es post e => ?_⟩
      rw [gH_at (args := args) (vs := vs) hj hga (k := k) (es := es) (post := post) (by simp only [GA.cell, hc, e]), hvi]
      simp [cellOf, Value.cells, Array.getD_eq_getD_getElem?, hu]
  · rename_i hi
    rw [List.getElem?_replicate] at hp
    split at hp
    · rename_i hlt
      simp only [Option.some.injEq] at hp
      subst hp
      refine ⟨undef, ?_, trivial⟩
      rw [Array.getElem?_append, if_neg (by omega), Array.getElem?_replicate, if_pos (by omega)]
    · cases hp
end Go.Sx
namespace Go.Sx
open Go.RowKit
def GC.found (t : Nat) : GC → Option Leaf → GC × Toks
  | .ro d, _ => (.ro d, [])
  | .gv k es (some _), some (.sl (.own s) k' es') => if s = t ∧ k' = k then (.gv k es (some es'), [(t, t)]) else (.gv k es none, [])
  | .gv k es _, _ => (.gv k es none, [])
def qbt (i : Nat) : Nat → List GC → List Leaf → List GC × Toks
  | _, [], _ => ([], [])
  | j, c :: cs, ls => ((c.found (gTok i j) ls.head?).1 :: (qbt i (j + 1) cs ls.tail).1, (c.found (gTok i j) ls.head?).2 ++ (qbt i (j + 1) cs ls.tail).2)
def GA.found (i : Nat) : GA → PV → GA × Toks
  | .one c, p => (.one (c.found (gTok i 0) p.leaf).1, (c.found (gTok i 0) p.leaf).2)
  | .agg cs, .al (.agg ls) => (.agg (qbt i 0 cs ls).1, (qbt i 0 cs ls).2)
  | .agg cs, _ => (.agg (qbt i 0 cs []).1, (qbt i 0 cs []).2)
def qbd : Nat → List GA → List PV → List GA × Toks
  | _, [], _ => ([], [])
  | i, a :: as, ps => ((a.found i (ps.headD .und)).1 :: (qbd (i + 1) as ps.tail).1, (a.found i (ps.headD .und)).2 ++ (qbd (i + 1) as ps.tail).2)
theorem GC.found_ok {t : Nat} {c : GC} {l : Option Leaf} {k : Nat} {es es' : List (List D)} (h : (c.found t l).1 = .gv k es (some es')) : l = some (.sl (.own t) k es') ∧ (t, t) ∈ (c.found t l).2 := by
  unfold GC.found at h ⊢
  split at h
  · cases h
  · rename_i k0 es0 p s k' es1
    split at h
    · rename_i hc
      obtain ⟨rfl, rfl⟩ := hc
      simp only [GC.gv.injEq, Option.some.injEq] at h
      obtain ⟨rfl, _, rfl⟩ := h
      exact ⟨rfl, by simp⟩
    · cases h
  · cases h
theorem qit (i : Nat) : ∀ {cs : List GC} {ls : List Leaf} {j x k : Nat} {es es' : List (List D)}, (qbt i j cs ls).1[x]? = some (.gv k es (some es')) →
    ls[x]? = some (.sl (.own (gTok i (j + x))) k es') ∧ (gTok i (j + x), gTok i (j + x)) ∈ (qbt i j cs ls).2
  | [], ls, j, x, k, es, es', h => by simp [qbt] at h
  | c :: cs, ls, j, 0, k, es, es', h => by
    simp only [qbt, List.getElem?_cons_zero, Option.some.injEq] at h
    obtain ⟨h1, h2⟩ := GC.found_ok h
    refine ⟨by cases ls <;> simp_all, ?_⟩
    simp only [qbt]
    exact List.mem_append_left _ h2
  | c :: cs, ls, j, x + 1, k, es, es', h => by
    simp only [qbt, List.getElem?_cons_succ] at h
    obtain ⟨h1, h2⟩ := qit i h
    rw [show j + 1 + x = j + (x + 1) by omega] at h1 h2
    refine ⟨by cases ls <;> simp_all, ?_⟩
    simp only [qbt]
    exact List.mem_append_right _ h2
def qeC (j : Nat) : AL → Option Leaf
  | .one l => if j = 0 then some l else none
  | .agg ls => ls[j]?
theorem GA.found_ok {i j : Nat} {a : GA} {p : PV} {k : Nat} {es es' : List (List D)} (h : (a.found i p).1.cell j = some (.gv k es (some es'))) :
    ∃ al, p = .al al ∧ qeC j al = some (.sl (.own (gTok i j)) k es') ∧ (gTok i j, gTok i j) ∈ (a.found i p).2 := by
  cases a with
  | one c =>
    simp only [GA.found, GA.cell] at h ⊢
    split at h
    · rename_i hj
      subst hj
      simp only [Option.some.injEq] at h
      obtain ⟨h1, h2⟩ := GC.found_ok h
      cases p with
      | tup as => cases h1
      | al a =>
        cases a with
        | agg ls => cases h1
        | one l =>
          simp only [PV.leaf, Option.some.injEq] at h1
          exact ⟨_, rfl, by simp [qeC, h1], h2⟩
    · cases h
  | agg cs =>
    have none_case : ∀ q : List GC × Toks, q = qbt i 0 cs [] → q.1[j]? = some (.gv k es (some es')) → False := by
      rintro q rfl h
      have := (qit i h).1
      simp at this
    cases p with
    | tup as => exact (none_case _ rfl h).elim
    | al a =>
      cases a with
      | one l => exact (none_case _ rfl h).elim
      | agg ls =>
        simp only [GA.found, GA.cell] at h ⊢
        obtain ⟨h1, h2⟩ := qit i h
        rw [Nat.zero_add] at h1 h2
        exact ⟨_, rfl, by simp [qeC, h1], h2⟩
theorem qlk : ∀ {as : List GA} {ps : List PV} {i x j : Nat} {a : GA} {k : Nat} {es es' : List (List D)}, (qbd i as ps).1[x]? = some a → a.cell j = some (.gv k es (some es')) →
    ∃ al, ps[x]? = some (.al al) ∧ qeC j al = some (.sl (.own (gTok (i + x) j)) k es') ∧ (gTok (i + x) j, gTok (i + x) j) ∈ (qbd i as ps).2
  | [], ps, i, x, j, a, k, es, es', h, _ => by simp [qbd] at h
  | b :: as, ps, i, 0, j, a, k, es, es', h, hc => by
    simp only [qbd, List.getElem?_cons_zero, Option.some.injEq] at h
    subst h
    obtain ⟨al, h1, h2, h3⟩ := GA.found_ok hc
    refine ⟨al, ?_, h2, ?_⟩
    · cases ps with
      | nil =>
        simp only [List.headD_nil] at h1
        cases h1
        simp only [qeC] at h2
        split at h2 <;> simp at h2
      | cons p ps => simpa using h1
    · simp only [qbd]
      exact List.mem_append_left _ h3
  | b :: as, ps, i, x + 1, j, a, k, es, es', h, hc => by
    simp only [qbd, List.getElem?_cons_succ] at h
    obtain ⟨al, h1, h2, h3⟩ := qlk h hc
    rw [show i + 1 + x = i + (x + 1) by omega] at h2 h3
    refine ⟨al, by cases ps <;> simp_all, h2, ?_⟩
    simp only [qbd]
    exact List.mem_append_right _ h3
def resG (P : Program) (st : St) (rv : List ResultVar) (args : List GA) (hint : List AD) : Option (List AD × List GA) :=
  match rv.mapM (qc4 P st) with
  | some ps =>
    match resPs 0 ps hint with
    | some (ds, ts) => if gFits args && qic (ts ++ (qbd 0 args st.env).2) then some (ds, (qbd 0 args st.env).1) else none
    | none => none
  | none => none
theorem qll {P : Program} {f : FuncId} {fn : Func} {c : Code} {args : List GA} {rs : List AD} {ans ans' : List Ans} {obs : List Prop} {e : Ex} {st : St} (hf : P.funcs[f]? = some fn) (hb : fn.body = some c)
    (hrun : run P c (initG args fn.ntmps) ans = some (e, st, ans', obs)) (ho : Obs obs) (he : e = .ret ∨ e = .normal) (hres : resG P st fn.results.toList args rs = some (rs, args)) : RetG P f args rs := by
  intro w vs ωg hargs
  unfold resG at hres
  split at hres
  · rename_i ps hps
    split at hres
    · rename_i ds ts hds
      split at hres
      · rename_i hok
        simp only [Option.some.injEq, Prod.mk.injEq] at hres
        obtain ⟨rfl, hfound⟩ := hres
        rw [Bool.and_eq_true] at hok
        obtain ⟨hfit, hok⟩ := hok
        refine calls_of_wp hf hb (Code.wp_mono (fun e' a' w' hp => ?_) (qbA c hrun ho _ _ w (qoJ hfit hargs fn.ntmps)))
        obtain ⟨rfl, ω, τ, hrel⟩ := hp
        obtain ⟨zs, h1, h2, h3⟩ := qif hrel hps
        obtain ⟨h4, h5⟩ := qie (w := w') (ω := ω) (τ := τ) (ts := ts ++ (qbd 0 args st.env).2) (fun t n h => qid hok h) hds (fun x hx => List.mem_append_left _ hx)
        have hm := qhl (P := P) _ fn.results w' _ h1
        have hcell : ∀ (j : Nat) (d : AD), ds[j]? = some d → ∃ z, zs[j]? = some z ∧ qcM w' (qa4 ω (ts ++ (qbd 0 args st.env).2)) j d z := by
          intro j d hd
          obtain ⟨p, hp, hp2⟩ := h5 j d hd
          obtain ⟨z, hz, hz2⟩ := h3 j p hp
          exact ⟨z, hz, by have := hp2 z hz2; rwa [Nat.zero_add] at this⟩
        have hzl : zs.length = ds.length := by omega
        have hall : ∀ v, (if h : zs.toArray.size = 1 then zs.toArray[0] else .tuple zs.toArray) = v → qb7 w' (qa4 ω (ts ++ (qbd 0 args st.env).2)) ds v := by
          intro v hv
          unfold qb7
          split
          · rename_i ad
            obtain ⟨z, hz, hc⟩ := hcell 0 ad rfl
            have h1 : zs.length = 1 := by rw [hzl]; rfl
            have hz0 : zs = [z] := by
              match zs, h1, hz with
              | [z0], _, hz => simp at hz; rw [hz]
            have hvz : v = z := by
              rw [← hv]
              simp [hz0]
            rw [hvz]
            exact hc
          · rename_i hne
            have h1 : ¬ zs.toArray.size = 1 := by
              intro h
              simp at h
              rw [hzl] at h
              obtain ⟨d, hd⟩ := List.length_eq_one_iff.1 h
              exact hne d hd
            rw [dif_neg h1] at hv
            exact ⟨zs.toArray, hv.symm, by simpa using hzl, fun r ad hr => by obtain ⟨z, hz, hc⟩ := hcell r ad hr; exact ⟨z, by simpa using hz, hc⟩⟩
        have hkept : Kept w' (qa4 ω (ts ++ (qbd 0 args st.env).2)) args vs := by
          intro i j ga k es es' hga hc
          have hga' : (qbd 0 args st.env).1[i]? = some ga := by rw [hfound]; exact hga
          obtain ⟨al, h6, h7, h8⟩ := qlk hga' hc
          rw [Nat.zero_add] at h7 h8
          obtain ⟨v, hv, hs⟩ := hrel.env i _ h6
          have hsat : ∃ u, Sat w' ω τ (.sl (.own (gTok i j)) k es') u := by
            cases al with
            | one l =>
              simp only [qeC] at h7
              split at h7
              · simp only [Option.some.injEq] at h7; exact ⟨v, h7 ▸ hs⟩
              · cases h7
            | agg ls =>
              obtain ⟨us, _, _, hu⟩ := hs
              obtain ⟨u, _, h9⟩ := hu j _ h7
              exact ⟨u, h9⟩
          obtain ⟨u, hr, hh⟩ := hsat
          have hj : j < 100 := by
            cases ga with
            | one c => simp only [GA.cell] at hc; split at hc <;> first | omega | cases hc
            | agg cs =>
              have h1 := List.all_eq_true.1 hfit _ (List.mem_of_getElem? hga)
              simp only [decide_eq_true_eq] at h1
              have := (List.getElem?_eq_some_iff.1 hc).1
              omega
          have hfix := hrel.fixed (gTok i j) (by simp [gTok])
          have hgh := gH_at (args := args) (vs := vs) hj hga hc
          have : u = cellOf (vs.getD i undef) j := by
            have h9 : τ (gTok i j) = (k, u) := hh
            rw [hfix] at h9
            have h10 : gH args vs (gTok i j) = (k, u) := h9
            rw [hgh] at h10
            exact (Prod.mk.inj h10).2.symm
          subst this
          refine hr.frame fun b q _ hq => ⟨?_, rfl⟩
          simp only [Tag.R] at hq ⊢
          have := qid hok (List.mem_append_right ts h8)
          simp only [qa4, hq, this]
        have hR : ∃ v, (results fn a'.tmps).run P w' = .ok v w' ∧ ∃ u, Ending.returned v = .returned u ∧ Bel ⟨w, fun b => ωg b ≠ .imm, fun _ => (0, undef)⟩ w' ∧
            ∃ ω' : Own, (∀ b, b < w.heap.size → ωg b = .imm → ω' b = .imm) ∧ (∀ b, ω' b ≠ .imm → (∃ t q, ω' b = .tok t q) ∧ ∃ arr ty, w'.heap[b]? = some (.cells arr ty (0, 0))) ∧ Kept w' ω' args vs ∧ qb7 w' ω' ds u := by
          refine ⟨_, ?_, _, rfl, ⟨hrel.below.os, hrel.below.tape, hrel.below.output, hrel.below.size, hrel.below.block, hrel.below.drawn⟩, qa4 ω (ts ++ (qbd 0 args st.env).2), fun b hb hg => ?_, fun b hb => ?_, hkept, hall _ rfl⟩
          · rw [qk6, Sem.run_bind, hm]
            rfl
          · cases hω : ω b with
            | imm => simp [qa4, hω]
            | box id => simp [qa4, hω]
            | tok t q =>
              rcases (hrel.owned b (by simp [hω])).1 with h | h
              · exact absurd hb (by have h : w.heap.size ≤ b := h; omega)
              · exact absurd hg h
          · cases hω : ω b with
            | imm => simp [qa4, hω] at hb
            | box id => simp [qa4, hω] at hb
            | tok t q =>
              refine ⟨?_, (hrel.owned b (by simp [hω])).2⟩
              simp only [qa4, hω] at hb ⊢
              cases hts : (ts ++ (qbd 0 args st.env).2).at t with
              | none => simp [hts] at hb
              | some n => exact ⟨n, q, rfl⟩
        obtain ⟨v, h6, h7⟩ := hR
        rcases he with rfl | rfl
        · exact ⟨hrel.defers, v, h6, h7⟩
        · exact ⟨hrel.defers, v, h6, h7⟩
      · cases hres
    · cases hres
  · cases hres
def outG (P : Program) (c : Code) (ntmps : Nat) (rv : List ResultVar) (args : List GA) (hint : List AD) (ans : List Ans) : Option (List AD × List GA × List Prop) :=
  match run P c (initG args ntmps) ans with
  | some (.ret, st, _, obs) => (resG P st rv args hint).map fun rs => (rs.1, rs.2, obs)
  | some (.normal, st, _, obs) => (resG P st rv args hint).map fun rs => (rs.1, rs.2, obs)
  | _ => none
theorem RetG.of {P : Program} {f : FuncId} {fn : Func} {args : List GA} {rs : List AD} (ans : List Ans) (obs : List Prop) (hf : P.funcs[f]? = some fn) (hb : fn.body.isSome = true)
    (h : outG P (qdv fn) fn.ntmps fn.results.toList args rs ans = some (rs, args, obs)) (ho : Obs obs) : RetG P f args rs := by
  obtain ⟨c, hc⟩ := Option.isSome_iff_exists.1 hb
  have hcode : qdv fn = c := by simp [qdv, hc]
  unfold outG at h
  rw [hcode] at h
  split at h
  · rename_i st a obs' hr
    rw [Option.map_eq_some_iff] at h
    obtain ⟨⟨rs1, rs2⟩, h1, h⟩ := h
    simp only [Prod.mk.injEq] at h
    obtain ⟨rfl, rfl, rfl⟩ := h
    exact qll hf hc hr ho (.inl rfl) h1
  · rename_i st a obs' hr
    rw [Option.map_eq_some_iff] at h
    obtain ⟨⟨rs1, rs2⟩, h1, h⟩ := h
    simp only [Prod.mk.injEq] at h
    obtain ⟨rfl, rfl, rfl⟩ := h
    exact qll hf hc hr ho (.inr rfl) h1
  · cases h
end Go.Sx
