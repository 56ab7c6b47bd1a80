/- From a law's contract to its statement. -/
import Derived.Test.YtamiheofgejehaaR20
import Derived.ProofKit
import Derived.Lib.SmallJoins
set_option linter.unusedVariables false
set_option linter.unusedSimpArgs false
namespace Go.Sx
open Go.ChangeShapes Go.WideShapes Go.ChangeAt Go.RowKit Go.Joins

def aggT (P : Program) (t : TypeId) : Bool := match P.underlying t with | some (.struct _) => true | _ => false

def ShA (P : Program) (t : TypeId) : AD → Prop
  | .one d => ShD P t [d] ∧ aggT P t = false
  | .agg ds => ShD P t ds ∧ aggT P t = true

def ShAll (P : Program) : List TypeId → List AD → Prop
  | [], [] => True
  | t :: ts, a :: as => ShA P t a ∧ ShAll P ts as
  | _, _ => False

section
variable {H : Type} {enc : TypeId × Value → H} {P : Program} {w : World} {base b0 : Nat} {held : Bool} {r : Reach}

theorem arg_of {t : TypeId} {v : Value} {d : DataW H} {ps : List MemPlace} (hs : simpleT P 20 t = true) (hval : Value.okWide P w r b0 t v) (h : DataW.Trod enc P w base (fun _ => true) held t v d ps) :
    ∃ ad, ShA P t ad ∧ ArgOk w ad v := by
  obtain ⟨fuel, hf⟩ := h
  obtain ⟨ds, h1, h2⟩ := trod_rep 20 t fuel _ _ hs hf
  have one : (∀ cs, v ≠ .agg cs) → aggT P t = false → ∃ ad, ShA P t ad ∧ ArgOk w ad v := by
    intro hv ha
    have hc : v.cells.toList = [v] := by
      cases v <;> first | rfl | (exact absurd rfl (hv _))
    rw [hc] at h2
    match ds, h1, h2 with
    | [d], h1, h2 =>
      obtain ⟨u, hu, hr⟩ := h2.2 0 d rfl
      simp at hu; subst hu
      exact ⟨.one d, ⟨h1, ha⟩, hr⟩
    | [], _, h2 => simp [RepL] at h2
    | _ :: _ :: _, _, h2 => simp [RepL] at h2
  rw [show (20 : Nat) = 19 + 1 from rfl] at hs
  unfold simpleT at hs
  unfold Value.okWide at hval
  split at hs
  · rename_i hu
    rw [hu] at hval
    refine one (fun cs e => ?_) (by simp [aggT, hu])
    subst e
    simp [Cell.okWide, Cell.ok, hu] at hval
  · rename_i hu
    rw [hu] at hval
    refine one (fun cs e => ?_) (by simp [aggT, hu])
    subst e
    simp [Cell.okWide, Cell.ok, hu] at hval
  · rename_i hu
    rw [hu] at hval
    refine one (fun cs e => ?_) (by simp [aggT, hu])
    subst e
    simp [Cell.okWide, Cell.ok, hu] at hval
  · rename_i hu
    rw [hu] at hval
    refine one (fun cs e => ?_) (by simp [aggT, hu])
    subst e
    simp [Cell.okWide, Cell.ok, hu] at hval
  · rename_i hu
    rw [hu] at hval
    obtain ⟨cs, rfl, _, _⟩ := hval
    refine ⟨.agg ds, ⟨h1, by simp [aggT, hu]⟩, cs, rfl, by have := h2.1; simpa [Value.cells] using this.symm, fun i d hd => ?_⟩
    obtain ⟨u, hu', hr⟩ := h2.2 i d hd
    exact ⟨u, by simpa [Value.cells] using hu', hr⟩
  · cases hs

theorem args_of : ∀ (ts : List TypeId) (vs : List Value) (ds : List (DataW H)) (ps : List MemPlace), ts.all (simpleT P 20) = true → (∀ (j : Nat) t v, ts[j]? = some t → vs[j]? = some v → Value.okWide P w r b0 t v) →
    DataW.TrodAll enc P w base (fun _ => true) held ts vs ds ps → ∃ ads, ShAll P ts ads ∧ vs.length = ads.length ∧ ∀ (i : Nat) (ad : AD), ads[i]? = some ad → ∃ v, vs[i]? = some v ∧ ArgOk w ad v
  | [], [], [], _, _, _, _ => ⟨[], trivial, rfl, fun i ad h => by simp at h⟩
  | t :: ts, v :: vs, d :: ds, ps, hs, hval, h => by
    obtain ⟨p, q, h1, h2, _⟩ := h
    simp only [List.all_cons, Bool.and_eq_true] at hs
    obtain ⟨ad, ha1, ha2⟩ := arg_of hs.1 (hval 0 t v rfl rfl) h1
    obtain ⟨ads, h3, h4, h5⟩ := args_of ts vs ds q hs.2 (fun j t v ht hv => hval (j + 1) t v (by simpa using ht) (by simpa using hv)) h2
    refine ⟨ad :: ads, ⟨ha1, h3⟩, by simp [h4], fun i ad' hi => ?_⟩
    cases i with
    | zero => simp at hi; subst hi; exact ⟨v, rfl, ha2⟩
    | succ i => simpa using h5 i ad' (by simpa using hi)
  | [], _ :: _, _, _, _, _, h => by simp [DataW.TrodAll] at h
  | [], [], _ :: _, _, _, _, h => by simp [DataW.TrodAll] at h
  | _ :: _, [], _, _, _, _, h => by simp [DataW.TrodAll] at h
  | _ :: _, _ :: _, [], _, _, _, h => by simp [DataW.TrodAll] at h

theorem trodAll_below' {H : Type} {enc : TypeId × Value → H} {P : Program} (hl : laidOutB P = true) {W W' : World} (hb : Below W.heap.size W W') :
    ∀ (ts : List TypeId) (vs : List Value) (ds : List (DataW H)) (ps : List MemPlace), ts.all (fun t => P.readableRec t && decide (t < P.types.size)) = true →
      DataW.TrodAll enc P W 0 (fun _ => true) true ts vs ds ps → (∀ x ∈ ps, x.block < W.heap.size) →
      DataW.TrodAll enc P W' 0 (fun b => decide (b < W.heap.size)) true ts vs ds ps
  | [], vs, ds, ps, _, h, _ => by
    obtain ⟨rfl, rfl, rfl⟩ := trodAll_nil h
    exact trodAll_mk0
  | t :: ts, vs, ds, ps, ht, h, hlt => by
    obtain ⟨v, vs', d, ds', p, q, rfl, rfl, rfl, h0, hr⟩ := trodAll_cons h
    simp only [List.all_cons, Bool.and_eq_true, decide_eq_true_eq] at ht
    exact trodAll_cons_mk (Below.trod hl ht.1.1 ht.1.2 h0 hb (fun x hx => hlt x (List.mem_append_left _ hx)))
      (trodAll_below' hl hb ts vs' ds' q ht.2 hr (fun x hx => hlt x (List.mem_append_right _ hx)))

theorem trodAll_len : ∀ (ts : List TypeId) (vs : List Value) (ds : List (DataW H)) (ps : List MemPlace), DataW.TrodAll enc P w base (fun _ => true) held ts vs ds ps → ds.length = ts.length
  | [], [], [], _, _ => rfl
  | t :: ts, v :: vs, d :: ds, ps, h => by
    obtain ⟨p, q, _, h2, _⟩ := h
    simp [trodAll_len ts vs ds q h2]
  | [], _ :: _, _, _, h => by simp [DataW.TrodAll] at h
  | [], [], _ :: _, _, h => by simp [DataW.TrodAll] at h
  | _ :: _, [], _, _, h => by simp [DataW.TrodAll] at h
  | _ :: _, _ :: _, [], _, h => by simp [DataW.TrodAll] at h

/-- A law's function answers true, whatever the arguments: then it answers as its row says. -/
theorem law_of_ret (hl : laidOutB P = true) {f : Func} {fno : Nat} {s : ChangeSpec} {tb : TypeId} (hres : f.resultTypes = #[tb]) (hb : P.underlying tb = some .bool)
    (hp : f.params.toList.all (fun t => P.readableRec t && decide (t < P.types.size)) = true) (hst : f.params.toList.all (simpleT P 20) = true) (hvars : s.vars = [])
    {W : World} {args : Array Value} {ds gs : List (DataW H)} {before : List MemPlace} (hval : ∀ (j : Nat) t v, f.params[j]? = some t → args[j]? = some v → Value.okWide P W r b0 t v)
    (hW : DataW.Whole enc P f.params.toList s.vars false W args.toList ds gs before)
    (hs : ds.length = f.params.size → (s.fn H ds).results = [.lit (.bool true)] ∧ (s.fn H ds).args = ds ∧ (s.fn H ds).vars = [])
    (hlaw : ∀ ads, ShAll P f.params.toList ads → Ret P fno ads [.one (B true)]) :
    Calls P fno args W fun e W' => ∃ v, e = .returned v ∧ s.post enc P f false true false false W args v W' := by
  have hW' := hW
  have hlt := hW.lt
  obtain ⟨p, q, hA, hV, rfl, hfz, hnd⟩ := hW
  rw [hvars] at hV
  obtain ⟨rfl, rfl⟩ := trodVars_none hV
  obtain ⟨h1, h2, h3⟩ := hs (by have := trodAll_len _ _ _ _ hA; simpa using this)
  obtain ⟨ads, hsh, hlen, hok⟩ := args_of _ _ _ _ hst (fun j t v ht hv => hval j t v (by simpa using ht) (by simpa using hv)) hA
  refine (hlaw ads hsh W args ⟨by simpa using hlen, fun i ad hi => by simpa using hok i ad hi⟩).mono ?_
  rintro e W' ⟨v, rfl, hbelow, hr⟩
  have hv : v = .bool true := by
    obtain ⟨ω, _, _, h⟩ := hr
    simp only [ResAll, CellRes] at h
    cases h
    rfl
  subst hv
  refine ⟨_, rfl, ds, [], p ++ [], [], p, [], hW', ?_, ?_, ?_, hbelow.frame _, fun h => by cases h⟩
  · rw [List.append_nil, h1, hres]
    exact trodAll_mk1 (shut_bool hb true)
  · rw [List.append_nil, h2]
    exact trodAll_below' hl hbelow _ _ _ _ hp hA (fun x hx => hlt x (by simpa using hx))
  · rw [List.append_nil, h3, hvars]
    rfl
end
end Go.Sx
