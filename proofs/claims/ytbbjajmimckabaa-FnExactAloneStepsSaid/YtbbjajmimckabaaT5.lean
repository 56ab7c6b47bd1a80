/- From a reading of an argument to a structure (printed by gentypes.py) -/
import Derived.Test.YtbbjajmimckabaaT1
import Derived.Test.YtbbjajmimckabaaR21
set_option linter.unusedVariables false
set_option linter.unusedSimpArgs false
namespace Go.Proofs.Ytbbjajmimckabaa
open Go.Sx Go.RowKit

theorem Try.own : ownKnob Try.prog.godebug = none := by kernel_rfl
theorem Try.laidOut : laidOutB Try.prog = true := by kernel_rfl

theorem int_of {P : Program} {t : TypeId} {ds : List D} (hu : P.underlying t = some (.int .i64)) (h : ShD P t ds) : ∃ n, ds = [I n] ∧ inInt .i64 n := by
  have h2 : ∃ n, ds = [.v (.int .i64 n)] ∧ (Lit.int .i64 n).wf = true := by cases h <;> simp_all
  obtain ⟨n, e, hw⟩ := h2
  refine ⟨n, e, ?_⟩
  simp [Lit.wf] at hw
  have h3 : IntKind.i64.min = -9223372036854775808 := rfl
  rw [h3] at hw
  exact hw

theorem slice_of {P : Program} {t e : TypeId} {ds : List D} (hu : P.underlying t = some (.slice e)) (h : ShD P t ds) : ∃ es, ds = [.sl (P.cellsOf e) es] ∧ es.length ≤ maxLen ∧ ∀ x ∈ es, ShD P e x := by
  cases h <;> simp_all

theorem struct_of {P : Program} {t : TypeId} {fs : Array Field} {ds : List D} (hu : P.underlying t = some (.struct fs)) (h : ShD P t ds) : ds.length = P.cellsOf t ∧ ∀ f ∈ fs.toList, ShD P f.type ((ds.drop f.offset).take (P.cellsOf f.type)) := by
  cases h <;> simp_all

theorem map_of {α : Type} (f : α → List D) (W : α → Prop) : ∀ {es : List (List D)}, (∀ ds ∈ es, ∃ a, ds = f a ∧ W a) → ∃ xs : List α, es = xs.map f ∧ ∀ a ∈ xs, W a
  | [], _ => ⟨[], rfl, by simp⟩
  | ds :: es, h => by
    obtain ⟨a, rfl, ha⟩ := h ds (by simp)
    obtain ⟨xs, rfl, hxs⟩ := map_of f W (es := es) fun x hx => h x (by simp [hx])
    refine ⟨a :: xs, rfl, fun b hb => ?_⟩
    rcases List.mem_cons.1 hb with rfl | hb
    · exact ha
    · exact hxs b hb

theorem list_of {α : Type} (f : α → List D) (W : α → Prop) {P : Program} {t e : TypeId} {k : Nat} (hu : P.underlying t = some (.slice e)) (hk : P.cellsOf e = k) (hel : ∀ ds, ShD P e ds → ∃ a, ds = f a ∧ W a) {ds : List D} (h : ShD P t ds) :
    ∃ xs : List α, ds = [.sl k (xs.map f)] ∧ (xs.length : Int) ≤ 9223372036854775807 ∧ ∀ a ∈ xs, W a := by
  obtain ⟨es, rfl, hl, he⟩ := slice_of hu h
  obtain ⟨xs, rfl, hxs⟩ := map_of f W fun ds hds => hel ds (he ds hds)
  refine ⟨xs, by rw [hk], ?_, hxs⟩
  have hm : maxLen = 9223372036854775807 := rfl
  rw [List.length_map] at hl
  omega

theorem lst2 {α : Type} {l : List α} (h : l.length = 2) : ∃ a0 a1, l = [a0, a1] := by
  match l, h with
  | [a0, a1], _ => exact ⟨a0, a1, rfl⟩
theorem lst3 {α : Type} {l : List α} (h : l.length = 3) : ∃ a0 a1 a2, l = [a0, a1, a2] := by
  match l, h with
  | [a0, a1, a2], _ => exact ⟨a0, a1, a2, rfl⟩
theorem lst4 {α : Type} {l : List α} (h : l.length = 4) : ∃ a0 a1 a2 a3, l = [a0, a1, a2, a3] := by
  match l, h with
  | [a0, a1, a2, a3], _ => exact ⟨a0, a1, a2, a3, rfl⟩
theorem lst5 {α : Type} {l : List α} (h : l.length = 5) : ∃ a0 a1 a2 a3 a4, l = [a0, a1, a2, a3, a4] := by
  match l, h with
  | [a0, a1, a2, a3, a4], _ => exact ⟨a0, a1, a2, a3, a4, rfl⟩
theorem Try.cells3 : Try.prog.cellsOf 3 = 1 := by kernel_rfl
theorem Try.cells24 : Try.prog.cellsOf 24 = 2 := by kernel_rfl

theorem Stamp_of {ds : List D} (h : ShD Try.prog 24 ds) : ∃ x : Stamp, ds = x.e ∧ x.wf := by
  obtain ⟨hl, hf⟩ := struct_of Try.underlying24 h
  rw [Try.cells24] at hl
  obtain ⟨a0, a1, rfl⟩ := lst2 hl
  have g0 : ShD Try.prog 3 [a0] := by
    have := hf _ (List.mem_cons_self ..)
    rw [Try.cells3] at this
    exact this
  obtain ⟨v0, e0, w0⟩ := int_of Try.underlying3 g0
  obtain rfl := (List.cons.inj e0).1
  have g1 : ShD Try.prog 3 [a1] := by
    have := hf _ (List.mem_cons_of_mem _ (List.mem_cons_self ..))
    rw [Try.cells3] at this
    exact this
  obtain ⟨v1, e1, w1⟩ := int_of Try.underlying3 g1
  obtain rfl := (List.cons.inj e1).1
  exact ⟨⟨v0, v1⟩, rfl, ⟨w0, w1⟩⟩

theorem Try.cells26 : Try.prog.cellsOf 26 = 5 := by kernel_rfl

theorem Record_of {ds : List D} (h : ShD Try.prog 26 ds) : ∃ x : Record, ds = x.e ∧ x.wf := by
  obtain ⟨hl, hf⟩ := struct_of Try.underlying26 h
  rw [Try.cells26] at hl
  obtain ⟨a0, a1, a2, a3, a4, rfl⟩ := lst5 hl
  have g0 : ShD Try.prog 3 [a0] := by
    have := hf _ (List.mem_cons_self ..)
    rw [Try.cells3] at this
    exact this
  obtain ⟨v0, e0, w0⟩ := int_of Try.underlying3 g0
  obtain rfl := (List.cons.inj e0).1
  have g1 : ShD Try.prog 24 [a1, a2] := by
    have := hf _ (List.mem_cons_of_mem _ (List.mem_cons_self ..))
    rw [Try.cells24] at this
    exact this
  obtain ⟨v1, e1, w1⟩ := Stamp_of g1
  simp only [Stamp.e, List.cons.injEq, and_true] at e1
  obtain ⟨rfl, rfl⟩ := e1
  have g2 : ShD Try.prog 3 [a3] := by
    have := hf _ (List.mem_cons_of_mem _ (List.mem_cons_of_mem _ (List.mem_cons_self ..)))
    rw [Try.cells3] at this
    exact this
  obtain ⟨v2, e2, w2⟩ := int_of Try.underlying3 g2
  obtain rfl := (List.cons.inj e2).1
  have g3 : ShD Try.prog 3 [a4] := by
    have := hf _ (List.mem_cons_of_mem _ (List.mem_cons_of_mem _ (List.mem_cons_of_mem _ (List.mem_cons_self ..))))
    rw [Try.cells3] at this
    exact this
  obtain ⟨v3, e3, w3⟩ := int_of Try.underlying3 g3
  obtain rfl := (List.cons.inj e3).1
  exact ⟨⟨v0, v1, v2, v3⟩, rfl, ⟨w0, w1, w2, w3⟩⟩

theorem ints_of {ds : List D} (h : ShD Try.prog 97 ds) : ∃ xs : List Int, ds = [.sl 1 (xs.map eI)] ∧ (xs.length : Int) ≤ 9223372036854775807 ∧ ∀ a ∈ xs, (fun n => inInt .i64 n) a :=
  list_of eI (fun n => inInt .i64 n) Try.underlying97 Try.cells3 (fun ds h => int_of Try.underlying3 h) h

theorem Try.cells97 : Try.prog.cellsOf 97 = 1 := by kernel_rfl

theorem Try.cells167 : Try.prog.cellsOf 167 = 4 := by kernel_rfl

theorem Node_of {ds : List D} (h : ShD Try.prog 167 ds) : ∃ x : Node, ds = x.e ∧ x.wf := by
  obtain ⟨hl, hf⟩ := struct_of Try.underlying167 h
  rw [Try.cells167] at hl
  obtain ⟨a0, a1, a2, a3, rfl⟩ := lst4 hl
  have g0 : ShD Try.prog 3 [a0] := by
    have := hf _ (List.mem_cons_self ..)
    rw [Try.cells3] at this
    exact this
  obtain ⟨v0, e0, w0⟩ := int_of Try.underlying3 g0
  obtain rfl := (List.cons.inj e0).1
  have g1 : ShD Try.prog 3 [a1] := by
    have := hf _ (List.mem_cons_of_mem _ (List.mem_cons_self ..))
    rw [Try.cells3] at this
    exact this
  obtain ⟨v1, e1, w1⟩ := int_of Try.underlying3 g1
  obtain rfl := (List.cons.inj e1).1
  have g2 : ShD Try.prog 3 [a2] := by
    have := hf _ (List.mem_cons_of_mem _ (List.mem_cons_of_mem _ (List.mem_cons_self ..)))
    rw [Try.cells3] at this
    exact this
  obtain ⟨v2, e2, w2⟩ := int_of Try.underlying3 g2
  obtain rfl := (List.cons.inj e2).1
  have g3 : ShD Try.prog 97 [a3] := by
    have := hf _ (List.mem_cons_of_mem _ (List.mem_cons_of_mem _ (List.mem_cons_of_mem _ (List.mem_cons_self ..))))
    rw [Try.cells97] at this
    exact this
  obtain ⟨v3, e3, w3⟩ := ints_of g3
  obtain rfl := (List.cons.inj e3).1
  exact ⟨⟨v0, v1, v2, v3⟩, rfl, ⟨w0, w1, w2, w3⟩⟩

theorem Records_of {ds : List D} (h : ShD Try.prog 22 ds) : ∃ xs : List Record, ds = [.sl 5 (xs.map Record.e)] ∧ (xs.length : Int) ≤ 9223372036854775807 ∧ ∀ a ∈ xs, (Record.wf) a :=
  list_of Record.e (Record.wf) Try.underlying22 Try.cells26 (fun ds h => Record_of h) h

theorem Nodes_of {ds : List D} (h : ShD Try.prog 38 ds) : ∃ xs : List Node, ds = [.sl 4 (xs.map Node.e)] ∧ (xs.length : Int) ≤ 9223372036854775807 ∧ ∀ a ∈ xs, (Node.wf) a :=
  list_of Node.e (Node.wf) Try.underlying38 Try.cells167 (fun ds h => Node_of h) h

theorem Try.cells38 : Try.prog.cellsOf 38 = 1 := by kernel_rfl

theorem Try.cells40 : Try.prog.cellsOf 40 = 3 := by kernel_rfl

theorem Graph_of {ds : List D} (h : ShD Try.prog 40 ds) : ∃ x : Graph, ds = x.e ∧ x.wf := by
  obtain ⟨hl, hf⟩ := struct_of Try.underlying40 h
  rw [Try.cells40] at hl
  obtain ⟨a0, a1, a2, rfl⟩ := lst3 hl
  have g0 : ShD Try.prog 38 [a0] := by
    have := hf _ (List.mem_cons_self ..)
    rw [Try.cells38] at this
    exact this
  obtain ⟨v0, e0, w0⟩ := Nodes_of g0
  obtain rfl := (List.cons.inj e0).1
  have g1 : ShD Try.prog 3 [a1] := by
    have := hf _ (List.mem_cons_of_mem _ (List.mem_cons_self ..))
    rw [Try.cells3] at this
    exact this
  obtain ⟨v1, e1, w1⟩ := int_of Try.underlying3 g1
  obtain rfl := (List.cons.inj e1).1
  have g2 : ShD Try.prog 3 [a2] := by
    have := hf _ (List.mem_cons_of_mem _ (List.mem_cons_of_mem _ (List.mem_cons_self ..)))
    rw [Try.cells3] at this
    exact this
  obtain ⟨v2, e2, w2⟩ := int_of Try.underlying3 g2
  obtain rfl := (List.cons.inj e2).1
  exact ⟨⟨v0, v1, v2⟩, rfl, ⟨w0, w1, w2⟩⟩

theorem Graph_arg {ad : AD} (h : ShA Try.prog 40 ad) : ∃ x : Graph, ad = .agg x.e ∧ x.wf := by
  cases ad with
  | one d => have := h.2; simp [aggT, Try.underlying40] at this
  | agg ds =>
    obtain ⟨x, rfl, hx⟩ := Graph_of h.1
    exact ⟨x, rfl, hx⟩

theorem Records_arg {ad : AD} (h : ShA Try.prog 22 ad) : ∃ xs : List Record, ad = .one (.sl 5 (xs.map Record.e)) ∧ (xs.length : Int) ≤ 9223372036854775807 ∧ ∀ a ∈ xs, (Record.wf) a := by
  cases ad with
  | agg ds => have := h.2; simp [aggT, Try.underlying22] at this
  | one d =>
    obtain ⟨x, e, hx⟩ := Records_of h.1
    obtain rfl := (List.cons.inj e).1
    exact ⟨x, rfl, hx⟩

theorem int_arg {ad : AD} (h : ShA Try.prog 3 ad) : ∃ n, ad = .one (I n) ∧ inInt .i64 n := by
  cases ad with
  | agg ds => have := h.2; simp [aggT, Try.underlying3] at this
  | one d =>
    obtain ⟨x, e, hx⟩ := int_of Try.underlying3 h.1
    obtain rfl := (List.cons.inj e).1
    exact ⟨x, rfl, hx⟩

end Go.Proofs.Ytbbjajmimckabaa
