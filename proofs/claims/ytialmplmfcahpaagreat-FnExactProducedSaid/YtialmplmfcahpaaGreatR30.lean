/- Rows of k cells, as raw memory: copy and clear; from a contract over raw memory to the contract with an argument handed over. -/
import Derived.Test.YtialmplmfcahpaaGreatR22
set_option linter.unusedVariables false
set_option linter.unusedSimpArgs false
namespace Go.Sx
open Go.RowKit
def fl (es : List (List Value)) : List (List D) := es.map (·.map .v)
theorem qgz (es : List (List Value)) : (fl es).length = es.length := by simp [fl]
theorem qlV {es : List (List Value)} {i j : Nat} {d : D} (h : qao (fl es) i j = some d) : ∃ e v, es[i]? = some e ∧ e[j]? = some v ∧ d = .v v := by
  unfold qao fl at h
  rw [List.getElem?_map] at h
  cases e1 : es[i]? with
  | none => simp [e1] at h
  | some e =>
    simp only [e1, Option.map_some, Option.bind_some, List.getElem?_map, Option.map_eq_some_iff] at h
    obtain ⟨v, h1, rfl⟩ := h
    exact ⟨e, v, rfl, h1, rfl⟩
theorem fl_at {es : List (List Value)} {i j : Nat} {e : List Value} {v : Value} (h1 : es[i]? = some e) (h2 : e[j]? = some v) : qao (fl es) i j = some (.v v) := by
  simp [qao, fl, h1, h2]
structure Row (w : World) (b off k cap : Nat) (arr : Array Value) (ty : TypeId) (es : List (List Value)) : Prop where
  heap : w.heap[b]? = some (.cells arr ty (0, 0))
  room : es.length ≤ cap
  fit : off + cap * k ≤ arr.size
  len : ∀ e ∈ es, e.length = k
  one : ∀ e ∈ es, ∀ v ∈ e, v.oneCell' = true
  cell : ∀ i j e v, es[i]? = some e → e[j]? = some v → arr[off + i * k + j]? = some v
theorem Row.rep {w : World} {b off k cap : Nat} {arr : Array Value} {ty : TypeId} {es : List (List Value)} (h : Row w b off k cap arr ty es) {ω : Own} {R : List (Nat × Nat) → Owner → Prop} (hR : R [] (ω b)) :
    Rep w ω R (.sl k (fl es)) (.slice (some ⟨b, off, none⟩) es.length cap) := by
  have := Rep.row (w := w) (ω := ω) R k (fl es) b off cap arr ty (0, 0) (fun i j => arr.getD (off + i * k + j) undef) h.heap hR (by rw [qgz]; exact h.room) h.fit
    (by intro e he; simp only [fl, List.mem_map] at he; obtain ⟨e0, h0, rfl⟩ := he; simpa using h.len e0 h0)
    (by
      intro i j d hd
      obtain ⟨e, v, h1, h2, rfl⟩ := qlV hd
      have := h.cell i j e v h1 h2
      simp [Array.getD_eq_getD_getElem?, this])
    (by
      intro i j d hd
      obtain ⟨e, v, h1, h2, rfl⟩ := qlV hd
      have h3 := h.cell i j e v h1 h2
      have : arr.getD (off + i * k + j) undef = v := by simp [Array.getD_eq_getD_getElem?, h3]
      rw [this]
      exact .v _ _ (h.one e (List.mem_of_getElem? h1) v (List.mem_of_getElem? h2)))
  rwa [qgz] at this
theorem Given.row {w : World} {ω : Own} (hg : Given w ω) {t k : Nat} {es : List (List Value)} {y : Value} (h : Rep w ω (Tag.own t).R (.sl k (fl es)) y) :
    (es = [] ∧ ∃ a, y = .slice a 0 0) ∨ ∃ b off cap arr ty, ω b = .tok t [] ∧ y = .slice (some ⟨b, off, none⟩) es.length cap ∧ Row w b off k cap arr ty es := by
  generalize hd : D.sl k (fl es) = d at h
  cases h with
  | nil R k a =>
    simp only [D.sl.injEq] at hd
    exact .inl ⟨by simpa [fl] using hd.2, a, rfl⟩
  | row R k es' b off cap arr ty fr us hb hR hc hs hk hu hd' =>
    simp only [D.sl.injEq] at hd
    obtain ⟨rfl, rfl⟩ := hd
    simp only [Tag.R] at hR
    obtain ⟨_, arr', ty', h3⟩ := hg b (by rw [hR]; simp)
    rw [hb] at h3
    simp only [Option.some.injEq, Obj.cells.injEq] at h3
    obtain ⟨rfl, rfl, rfl⟩ := h3
    refine .inr ⟨b, off, cap, arr, ty, hR, by rw [qgz], hb, by rwa [qgz] at hc, hs, fun e he => ?_, fun e he v hv => ?_, fun i j e v h1 h2 => ?_⟩
    · have := hk (e.map .v) (by simp only [fl, List.mem_map]; exact ⟨e, he, rfl⟩)
      simpa using this
    · obtain ⟨i, hi⟩ := List.mem_iff_getElem?.1 he
      obtain ⟨j, hj⟩ := List.mem_iff_getElem?.1 hv
      have := hd' i j (.v v) (fl_at hi hj)
      generalize us i j = u at this
      cases this with
      | v _ _ h1 => exact h1
    · have h3 := hu i j (.v v) (fl_at h1 h2)
      have h4 := hd' i j (.v v) (fl_at h1 h2)
      generalize us i j = u at h3 h4
      cases h4 with
      | v => exact h3
  | v => cases hd
  | ptr => cases hd
  | cl => cases hd
structure LeftRow (w w' : World) (own : Nat → Prop) (k : Nat) (es : List (List Value)) (v : Value) : Prop where
  bel : Bel ⟨w, own, fun _ => (0, undef)⟩ w'
  row : (es = [] ∧ ∃ a, v = .slice a 0 0) ∨ ∃ b off cap arr ty, (own b ∨ w.heap.size ≤ b) ∧ v = .slice (some ⟨b, off, none⟩) es.length cap ∧ Row w' b off k cap arr ty es
theorem LeftRow.res {w w' : World} {ω : Own} {k : Nat} {es : List (List Value)} {v : Value} (h : LeftRow w w' (fun b => ω b ≠ .imm) k es v) :
    ∃ ω' : Own, (∀ b, b < w.heap.size → ω b = .imm → ω' b = .imm) ∧ (∀ b, ω' b ≠ .imm → (∃ t q, ω' b = .tok t q) ∧ ∃ arr ty, w'.heap[b]? = some (.cells arr ty (0, 0))) ∧ qb7 w' ω' [.one (.sl k (fl es))] v := by
  rcases h.row with ⟨rfl, a, rfl⟩ | ⟨b, off, cap, arr, ty, ho, rfl, hr⟩
  · exact ⟨fun _ => .imm, fun _ _ _ => rfl, fun b hb => absurd rfl hb, Rep.nil _ k a⟩
  · refine ⟨fun c => if c = b then .tok 0 [] else .imm, fun c hc he => ?_, fun c hc => ?_, ?_⟩
    · by_cases e : c = b
      · subst e
        rcases ho with ho | ho
        · exact absurd he ho
        · omega
      · simp only [if_neg e]
    · by_cases e : c = b
      · subst e; exact ⟨⟨0, [], by simp⟩, arr, ty, hr.heap⟩
      · simp only [if_neg e] at hc; exact absurd rfl hc
    · exact hr.rep (R := (Tag.own 0).R) (by simp [Tag.R])
def D.unV : D → Value
  | .v x => x
  | _ => undef
theorem args2 {vs : Array Value} {a b : Value} (h : vs.size = 2) (h0 : vs[0]? = some a) (h1 : vs[1]? = some b) : vs = #[a, b] := by
  apply Array.ext
  · simpa using h
  · intro i hi _
    have hi' : i < 2 := by omega
    match i, hi' with
    | 0, _ => simpa [Array.getElem?_eq_getElem hi] using h0
    | 1, _ => simpa [Array.getElem?_eq_getElem hi] using h1
theorem args3 {vs : Array Value} {a b c : Value} (h : vs.size = 3) (h0 : vs[0]? = some a) (h1 : vs[1]? = some b) (h2 : vs[2]? = some c) : vs = #[a, b, c] := by
  apply Array.ext
  · simpa using h
  · intro i hi _
    have hi' : i < 3 := by omega
    match i, hi' with
    | 0, _ => simpa [Array.getElem?_eq_getElem hi] using h0
    | 1, _ => simpa [Array.getElem?_eq_getElem hi] using h1
    | 2, _ => simpa [Array.getElem?_eq_getElem hi] using h2
theorem Rep.eq_v {w : World} {ω : Own} {R : List (Nat × Nat) → Owner → Prop} {x y : Value} (h : Rep w ω R (.v x) y) : y = x := by
  cases h
  rfl
theorem qlW {w : World} {ω : Own} {args : List GA} {vs : Array Value} (h : ∀ (i j : Nat) (ga : GA) (k : Nat) (es es' : List (List D)), args[i]? = some ga → ga.cell j = some (.gv k es (some es')) → False) : Kept w ω args vs :=
  fun i j ga k es es' h1 h2 => (h i j ga k es es' h1 h2).elim
@[simp] theorem setRow_drawn (w : World) (b : Nat) (cs : Array Value) : (w.setRow b cs).drawn = w.drawn := rfl
theorem qlX {w : World} {own : Nat → Prop} {b : Nat} (hb : own b) (A1 A2 : Array Value) : Bel ⟨w, own, fun _ => (0, undef)⟩ ((w.drew.setRow b A1).setRow b A2) := by
  refine ⟨rfl, rfl, rfl, by simp, fun k hk hg => ?_, ?_⟩
  · have : k ≠ b := fun e => hg (by rw [e]; exact hb)
    rw [setRow_other _ b k _ this, setRow_other _ b k _ this]
    rfl
  · show w.drawn ≤ w.drawn + 1
    omega
end Go.Sx
