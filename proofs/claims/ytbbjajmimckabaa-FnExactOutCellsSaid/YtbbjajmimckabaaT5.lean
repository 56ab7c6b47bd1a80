/- From a reading of an argument to a structure (printed by gentypes.py) -/
import Derived.Test.YtbbjajmimckabaaT1
import Derived.Test.YtbbjajmimckabaaR21
set_option linter.unusedVariables false
set_option linter.unusedSimpArgs false
namespace Go.Proofs.Ytbbjajmimckabaa
open Go.Sx Go.RowKit

theorem Try.own : ownKnob Try.prog.godebug = none := by kernel_rfl
theorem Try.laidOut : laidOutB Try.prog = true := by kernel_rfl

theorem int_of {P : Program} {t : TypeId} {ds : List D} (hu : P.underlying t = some (.int .i64)) (h : ShD P t ds) : ∃ n, ds = [I n] ∧ inInt .i64 n := by
  have h2 : ∃ n, ds = [.v (.int .i64 n)] ∧ (Lit.int .i64 n).wf = true := by cases h <;> simp_all
  obtain ⟨n, e, hw⟩ := h2
  refine ⟨n, e, ?_⟩
  simp [Lit.wf] at hw
  have h3 : IntKind.i64.min = -9223372036854775808 := rfl
  rw [h3] at hw
  exact hw

theorem bool_of {P : Program} {t : TypeId} {ds : List D} (hu : P.underlying t = some .bool) (h : ShD P t ds) : ∃ b, ds = [B b] := by
  cases h <;> simp_all

theorem slice_of {P : Program} {t e : TypeId} {ds : List D} (hu : P.underlying t = some (.slice e)) (h : ShD P t ds) : ∃ es, ds = [.sl (P.cellsOf e) es] ∧ es.length ≤ maxLen ∧ ∀ x ∈ es, ShD P e x := by
  cases h <;> simp_all

theorem struct_of {P : Program} {t : TypeId} {fs : Array Field} {ds : List D} (hu : P.underlying t = some (.struct fs)) (h : ShD P t ds) : ds.length = P.cellsOf t ∧ ∀ f ∈ fs.toList, ShD P f.type ((ds.drop f.offset).take (P.cellsOf f.type)) := by
  cases h <;> simp_all

theorem map_of {α : Type} (f : α → List D) (W : α → Prop) : ∀ {es : List (List D)}, (∀ ds ∈ es, ∃ a, ds = f a ∧ W a) → ∃ xs : List α, es = xs.map f ∧ ∀ a ∈ xs, W a
  | [], _ => ⟨[], rfl, by simp⟩
  | ds :: es, h => by
    obtain ⟨a, rfl, ha⟩ := h ds (by simp)
    obtain ⟨xs, rfl, hxs⟩ := map_of f W (es := es) fun x hx => h x (by simp [hx])
    refine ⟨a :: xs, rfl, fun b hb => ?_⟩
    rcases List.mem_cons.1 hb with rfl | hb
    · exact ha
    · exact hxs b hb

theorem list_of {α : Type} (f : α → List D) (W : α → Prop) {P : Program} {t e : TypeId} {k : Nat} (hu : P.underlying t = some (.slice e)) (hk : P.cellsOf e = k) (hel : ∀ ds, ShD P e ds → ∃ a, ds = f a ∧ W a) {ds : List D} (h : ShD P t ds) :
    ∃ xs : List α, ds = [.sl k (xs.map f)] ∧ (xs.length : Int) ≤ 9223372036854775807 ∧ ∀ a ∈ xs, W a := by
  obtain ⟨es, rfl, hl, he⟩ := slice_of hu h
  obtain ⟨xs, rfl, hxs⟩ := map_of f W fun ds hds => hel ds (he ds hds)
  refine ⟨xs, by rw [hk], ?_, hxs⟩
  have hm : maxLen = 9223372036854775807 := rfl
  rw [List.length_map] at hl
  omega

theorem lst1 {α : Type} {l : List α} (h : l.length = 1) : ∃ a0, l = [a0] := by
  match l, h with
  | [a0], _ => exact ⟨a0, rfl⟩
theorem lst2 {α : Type} {l : List α} (h : l.length = 2) : ∃ a0 a1, l = [a0, a1] := by
  match l, h with
  | [a0, a1], _ => exact ⟨a0, a1, rfl⟩
theorem lst3 {α : Type} {l : List α} (h : l.length = 3) : ∃ a0 a1 a2, l = [a0, a1, a2] := by
  match l, h with
  | [a0, a1, a2], _ => exact ⟨a0, a1, a2, rfl⟩
theorem lst4 {α : Type} {l : List α} (h : l.length = 4) : ∃ a0 a1 a2 a3, l = [a0, a1, a2, a3] := by
  match l, h with
  | [a0, a1, a2, a3], _ => exact ⟨a0, a1, a2, a3, rfl⟩
theorem lst5 {α : Type} {l : List α} (h : l.length = 5) : ∃ a0 a1 a2 a3 a4, l = [a0, a1, a2, a3, a4] := by
  match l, h with
  | [a0, a1, a2, a3, a4], _ => exact ⟨a0, a1, a2, a3, a4, rfl⟩
theorem lst6 {α : Type} {l : List α} (h : l.length = 6) : ∃ a0 a1 a2 a3 a4 a5, l = [a0, a1, a2, a3, a4, a5] := by
  match l, h with
  | [a0, a1, a2, a3, a4, a5], _ => exact ⟨a0, a1, a2, a3, a4, a5, rfl⟩
theorem lst7 {α : Type} {l : List α} (h : l.length = 7) : ∃ a0 a1 a2 a3 a4 a5 a6, l = [a0, a1, a2, a3, a4, a5, a6] := by
  match l, h with
  | [a0, a1, a2, a3, a4, a5, a6], _ => exact ⟨a0, a1, a2, a3, a4, a5, a6, rfl⟩
theorem lst8 {α : Type} {l : List α} (h : l.length = 8) : ∃ a0 a1 a2 a3 a4 a5 a6 a7, l = [a0, a1, a2, a3, a4, a5, a6, a7] := by
  match l, h with
  | [a0, a1, a2, a3, a4, a5, a6, a7], _ => exact ⟨a0, a1, a2, a3, a4, a5, a6, a7, rfl⟩

theorem Try.cells3 : Try.prog.cellsOf 3 = 1 := by kernel_rfl
theorem Try.cells4 : Try.prog.cellsOf 4 = 1 := by kernel_rfl
theorem Try.cells24 : Try.prog.cellsOf 24 = 2 := by kernel_rfl

theorem Stamp_of {ds : List D} (h : ShD Try.prog 24 ds) : ∃ x : Stamp, ds = x.e ∧ x.wf := by
  obtain ⟨hl, hf⟩ := struct_of Try.underlying24 h
  rw [Try.cells24] at hl
  obtain ⟨a0, a1, rfl⟩ := lst2 hl
  have g0 : ShD Try.prog 3 [a0] := by
    have := hf _ (List.mem_cons_self ..)
    rw [Try.cells3] at this
    exact this
  obtain ⟨v0, e0, w0⟩ := int_of Try.underlying3 g0
  obtain rfl := (List.cons.inj e0).1
  have g1 : ShD Try.prog 3 [a1] := by
    have := hf _ (List.mem_cons_of_mem _ (List.mem_cons_self ..))
    rw [Try.cells3] at this
    exact this
  obtain ⟨v1, e1, w1⟩ := int_of Try.underlying3 g1
  obtain rfl := (List.cons.inj e1).1
  exact ⟨⟨v0, v1⟩, rfl, ⟨w0, w1⟩⟩

theorem Stamp_arg {ad : AD} (h : ShA Try.prog 24 ad) : ∃ x : Stamp, ad = .agg x.e ∧ x.wf := by
  cases ad with
  | one d => have := h.2; simp [aggT, Try.underlying24] at this
  | agg ds =>
    obtain ⟨x, rfl, hx⟩ := Stamp_of h.1
    exact ⟨x, rfl, hx⟩

theorem Try.cells26 : Try.prog.cellsOf 26 = 5 := by kernel_rfl

theorem Record_of {ds : List D} (h : ShD Try.prog 26 ds) : ∃ x : Record, ds = x.e ∧ x.wf := by
  obtain ⟨hl, hf⟩ := struct_of Try.underlying26 h
  rw [Try.cells26] at hl
  obtain ⟨a0, a1, a2, a3, a4, rfl⟩ := lst5 hl
  have g0 : ShD Try.prog 3 [a0] := by
    have := hf _ (List.mem_cons_self ..)
    rw [Try.cells3] at this
    exact this
  obtain ⟨v0, e0, w0⟩ := int_of Try.underlying3 g0
  obtain rfl := (List.cons.inj e0).1
  have g1 : ShD Try.prog 24 [a1, a2] := by
    have := hf _ (List.mem_cons_of_mem _ (List.mem_cons_self ..))
    rw [Try.cells24] at this
    exact this
  obtain ⟨v1, e1, w1⟩ := Stamp_of g1
  simp only [Stamp.e, List.cons.injEq, and_true] at e1
  obtain ⟨rfl, rfl⟩ := e1
  have g2 : ShD Try.prog 3 [a3] := by
    have := hf _ (List.mem_cons_of_mem _ (List.mem_cons_of_mem _ (List.mem_cons_self ..)))
    rw [Try.cells3] at this
    exact this
  obtain ⟨v2, e2, w2⟩ := int_of Try.underlying3 g2
  obtain rfl := (List.cons.inj e2).1
  have g3 : ShD Try.prog 3 [a4] := by
    have := hf _ (List.mem_cons_of_mem _ (List.mem_cons_of_mem _ (List.mem_cons_of_mem _ (List.mem_cons_self ..))))
    rw [Try.cells3] at this
    exact this
  obtain ⟨v3, e3, w3⟩ := int_of Try.underlying3 g3
  obtain rfl := (List.cons.inj e3).1
  exact ⟨⟨v0, v1, v2, v3⟩, rfl, ⟨w0, w1, w2, w3⟩⟩

theorem Record_arg {ad : AD} (h : ShA Try.prog 26 ad) : ∃ x : Record, ad = .agg x.e ∧ x.wf := by
  cases ad with
  | one d => have := h.2; simp [aggT, Try.underlying26] at this
  | agg ds =>
    obtain ⟨x, rfl, hx⟩ := Record_of h.1
    exact ⟨x, rfl, hx⟩

theorem Try.cells201 : Try.prog.cellsOf 201 = 4 := by kernel_rfl

theorem Cell_of {ds : List D} (h : ShD Try.prog 201 ds) : ∃ x : Cell, ds = x.e ∧ x.wf := by
  obtain ⟨hl, hf⟩ := struct_of Try.underlying201 h
  rw [Try.cells201] at hl
  obtain ⟨a0, a1, a2, a3, rfl⟩ := lst4 hl
  have g0 : ShD Try.prog 3 [a0] := by
    have := hf _ (List.mem_cons_self ..)
    rw [Try.cells3] at this
    exact this
  obtain ⟨v0, e0, w0⟩ := int_of Try.underlying3 g0
  obtain rfl := (List.cons.inj e0).1
  have g1 : ShD Try.prog 3 [a1] := by
    have := hf _ (List.mem_cons_of_mem _ (List.mem_cons_self ..))
    rw [Try.cells3] at this
    exact this
  obtain ⟨v1, e1, w1⟩ := int_of Try.underlying3 g1
  obtain rfl := (List.cons.inj e1).1
  have g2 : ShD Try.prog 3 [a2] := by
    have := hf _ (List.mem_cons_of_mem _ (List.mem_cons_of_mem _ (List.mem_cons_self ..)))
    rw [Try.cells3] at this
    exact this
  obtain ⟨v2, e2, w2⟩ := int_of Try.underlying3 g2
  obtain rfl := (List.cons.inj e2).1
  have g3 : ShD Try.prog 3 [a3] := by
    have := hf _ (List.mem_cons_of_mem _ (List.mem_cons_of_mem _ (List.mem_cons_of_mem _ (List.mem_cons_self ..))))
    rw [Try.cells3] at this
    exact this
  obtain ⟨v3, e3, w3⟩ := int_of Try.underlying3 g3
  obtain rfl := (List.cons.inj e3).1
  exact ⟨⟨v0, v1, v2, v3⟩, rfl, ⟨w0, w1, w2, w3⟩⟩

theorem Cell_arg {ad : AD} (h : ShA Try.prog 201 ad) : ∃ x : Cell, ad = .agg x.e ∧ x.wf := by
  cases ad with
  | one d => have := h.2; simp [aggT, Try.underlying201] at this
  | agg ds =>
    obtain ⟨x, rfl, hx⟩ := Cell_of h.1
    exact ⟨x, rfl, hx⟩

theorem Try.cells203 : Try.prog.cellsOf 203 = 2 := by kernel_rfl

theorem Done_of {ds : List D} (h : ShD Try.prog 203 ds) : ∃ x : Done, ds = x.e ∧ x.wf := by
  obtain ⟨hl, hf⟩ := struct_of Try.underlying203 h
  rw [Try.cells203] at hl
  obtain ⟨a0, a1, rfl⟩ := lst2 hl
  have g0 : ShD Try.prog 3 [a0] := by
    have := hf _ (List.mem_cons_self ..)
    rw [Try.cells3] at this
    exact this
  obtain ⟨v0, e0, w0⟩ := int_of Try.underlying3 g0
  obtain rfl := (List.cons.inj e0).1
  have g1 : ShD Try.prog 4 [a1] := by
    have := hf _ (List.mem_cons_of_mem _ (List.mem_cons_self ..))
    rw [Try.cells4] at this
    exact this
  obtain ⟨v1, e1⟩ := bool_of Try.underlying4 g1
  obtain rfl := (List.cons.inj e1).1
  exact ⟨⟨v0, v1⟩, rfl, ⟨w0⟩⟩

theorem Done_arg {ad : AD} (h : ShA Try.prog 203 ad) : ∃ x : Done, ad = .agg x.e ∧ x.wf := by
  cases ad with
  | one d => have := h.2; simp [aggT, Try.underlying203] at this
  | agg ds =>
    obtain ⟨x, rfl, hx⟩ := Done_of h.1
    exact ⟨x, rfl, hx⟩

theorem Try.cells145 : Try.prog.cellsOf 145 = 5 := by kernel_rfl

theorem Token_of {ds : List D} (h : ShD Try.prog 145 ds) : ∃ x : Token, ds = x.e ∧ x.wf := by
  obtain ⟨hl, hf⟩ := struct_of Try.underlying145 h
  rw [Try.cells145] at hl
  obtain ⟨a0, a1, a2, a3, a4, rfl⟩ := lst5 hl
  have g0 : ShD Try.prog 4 [a0] := by
    have := hf _ (List.mem_cons_self ..)
    rw [Try.cells4] at this
    exact this
  obtain ⟨v0, e0⟩ := bool_of Try.underlying4 g0
  obtain rfl := (List.cons.inj e0).1
  have g1 : ShD Try.prog 3 [a1] := by
    have := hf _ (List.mem_cons_of_mem _ (List.mem_cons_self ..))
    rw [Try.cells3] at this
    exact this
  obtain ⟨v1, e1, w1⟩ := int_of Try.underlying3 g1
  obtain rfl := (List.cons.inj e1).1
  have g2 : ShD Try.prog 3 [a2] := by
    have := hf _ (List.mem_cons_of_mem _ (List.mem_cons_of_mem _ (List.mem_cons_self ..)))
    rw [Try.cells3] at this
    exact this
  obtain ⟨v2, e2, w2⟩ := int_of Try.underlying3 g2
  obtain rfl := (List.cons.inj e2).1
  have g3 : ShD Try.prog 4 [a3] := by
    have := hf _ (List.mem_cons_of_mem _ (List.mem_cons_of_mem _ (List.mem_cons_of_mem _ (List.mem_cons_self ..))))
    rw [Try.cells4] at this
    exact this
  obtain ⟨v3, e3⟩ := bool_of Try.underlying4 g3
  obtain rfl := (List.cons.inj e3).1
  have g4 : ShD Try.prog 4 [a4] := by
    have := hf _ (List.mem_cons_of_mem _ (List.mem_cons_of_mem _ (List.mem_cons_of_mem _ (List.mem_cons_of_mem _ (List.mem_cons_self ..)))))
    rw [Try.cells4] at this
    exact this
  obtain ⟨v4, e4⟩ := bool_of Try.underlying4 g4
  obtain rfl := (List.cons.inj e4).1
  exact ⟨⟨v0, v1, v2, v3, v4⟩, rfl, ⟨w1, w2⟩⟩

theorem Token_arg {ad : AD} (h : ShA Try.prog 145 ad) : ∃ x : Token, ad = .agg x.e ∧ x.wf := by
  cases ad with
  | one d => have := h.2; simp [aggT, Try.underlying145] at this
  | agg ds =>
    obtain ⟨x, rfl, hx⟩ := Token_of h.1
    exact ⟨x, rfl, hx⟩

theorem Try.cells149 : Try.prog.cellsOf 149 = 3 := by kernel_rfl

theorem News_of {ds : List D} (h : ShD Try.prog 149 ds) : ∃ x : News, ds = x.e ∧ x.wf := by
  obtain ⟨hl, hf⟩ := struct_of Try.underlying149 h
  rw [Try.cells149] at hl
  obtain ⟨a0, a1, a2, rfl⟩ := lst3 hl
  have g0 : ShD Try.prog 3 [a0] := by
    have := hf _ (List.mem_cons_self ..)
    rw [Try.cells3] at this
    exact this
  obtain ⟨v0, e0, w0⟩ := int_of Try.underlying3 g0
  obtain rfl := (List.cons.inj e0).1
  have g1 : ShD Try.prog 3 [a1] := by
    have := hf _ (List.mem_cons_of_mem _ (List.mem_cons_self ..))
    rw [Try.cells3] at this
    exact this
  obtain ⟨v1, e1, w1⟩ := int_of Try.underlying3 g1
  obtain rfl := (List.cons.inj e1).1
  have g2 : ShD Try.prog 4 [a2] := by
    have := hf _ (List.mem_cons_of_mem _ (List.mem_cons_of_mem _ (List.mem_cons_self ..)))
    rw [Try.cells4] at this
    exact this
  obtain ⟨v2, e2⟩ := bool_of Try.underlying4 g2
  obtain rfl := (List.cons.inj e2).1
  exact ⟨⟨v0, v1, v2⟩, rfl, ⟨w0, w1⟩⟩

theorem News_arg {ad : AD} (h : ShA Try.prog 149 ad) : ∃ x : News, ad = .agg x.e ∧ x.wf := by
  cases ad with
  | one d => have := h.2; simp [aggT, Try.underlying149] at this
  | agg ds =>
    obtain ⟨x, rfl, hx⟩ := News_of h.1
    exact ⟨x, rfl, hx⟩

theorem Try.cells48 : Try.prog.cellsOf 48 = 3 := by kernel_rfl

theorem Pick_of {ds : List D} (h : ShD Try.prog 48 ds) : ∃ x : Pick, ds = x.e ∧ x.wf := by
  obtain ⟨hl, hf⟩ := struct_of Try.underlying48 h
  rw [Try.cells48] at hl
  obtain ⟨a0, a1, a2, rfl⟩ := lst3 hl
  have g0 : ShD Try.prog 3 [a0] := by
    have := hf _ (List.mem_cons_self ..)
    rw [Try.cells3] at this
    exact this
  obtain ⟨v0, e0, w0⟩ := int_of Try.underlying3 g0
  obtain rfl := (List.cons.inj e0).1
  have g1 : ShD Try.prog 3 [a1] := by
    have := hf _ (List.mem_cons_of_mem _ (List.mem_cons_self ..))
    rw [Try.cells3] at this
    exact this
  obtain ⟨v1, e1, w1⟩ := int_of Try.underlying3 g1
  obtain rfl := (List.cons.inj e1).1
  have g2 : ShD Try.prog 3 [a2] := by
    have := hf _ (List.mem_cons_of_mem _ (List.mem_cons_of_mem _ (List.mem_cons_self ..)))
    rw [Try.cells3] at this
    exact this
  obtain ⟨v2, e2, w2⟩ := int_of Try.underlying3 g2
  obtain rfl := (List.cons.inj e2).1
  exact ⟨⟨v0, v1, v2⟩, rfl, ⟨w0, w1, w2⟩⟩

theorem Pick_arg {ad : AD} (h : ShA Try.prog 48 ad) : ∃ x : Pick, ad = .agg x.e ∧ x.wf := by
  cases ad with
  | one d => have := h.2; simp [aggT, Try.underlying48] at this
  | agg ds =>
    obtain ⟨x, rfl, hx⟩ := Pick_of h.1
    exact ⟨x, rfl, hx⟩

theorem ints_of {ds : List D} (h : ShD Try.prog 97 ds) : ∃ xs : List Int, ds = [.sl 1 (xs.map eI)] ∧ (xs.length : Int) ≤ 9223372036854775807 ∧ ∀ a ∈ xs, (fun n => inInt .i64 n) a :=
  list_of eI (fun n => inInt .i64 n) Try.underlying97 Try.cells3 (fun ds h => int_of Try.underlying3 h) h

theorem Try.cells97 : Try.prog.cellsOf 97 = 1 := by kernel_rfl

theorem Try.cells167 : Try.prog.cellsOf 167 = 4 := by kernel_rfl

theorem Node_of {ds : List D} (h : ShD Try.prog 167 ds) : ∃ x : Node, ds = x.e ∧ x.wf := by
  obtain ⟨hl, hf⟩ := struct_of Try.underlying167 h
  rw [Try.cells167] at hl
  obtain ⟨a0, a1, a2, a3, rfl⟩ := lst4 hl
  have g0 : ShD Try.prog 3 [a0] := by
    have := hf _ (List.mem_cons_self ..)
    rw [Try.cells3] at this
    exact this
  obtain ⟨v0, e0, w0⟩ := int_of Try.underlying3 g0
  obtain rfl := (List.cons.inj e0).1
  have g1 : ShD Try.prog 3 [a1] := by
    have := hf _ (List.mem_cons_of_mem _ (List.mem_cons_self ..))
    rw [Try.cells3] at this
    exact this
  obtain ⟨v1, e1, w1⟩ := int_of Try.underlying3 g1
  obtain rfl := (List.cons.inj e1).1
  have g2 : ShD Try.prog 3 [a2] := by
    have := hf _ (List.mem_cons_of_mem _ (List.mem_cons_of_mem _ (List.mem_cons_self ..)))
    rw [Try.cells3] at this
    exact this
  obtain ⟨v2, e2, w2⟩ := int_of Try.underlying3 g2
  obtain rfl := (List.cons.inj e2).1
  have g3 : ShD Try.prog 97 [a3] := by
    have := hf _ (List.mem_cons_of_mem _ (List.mem_cons_of_mem _ (List.mem_cons_of_mem _ (List.mem_cons_self ..))))
    rw [Try.cells97] at this
    exact this
  obtain ⟨v3, e3, w3⟩ := ints_of g3
  obtain rfl := (List.cons.inj e3).1
  exact ⟨⟨v0, v1, v2, v3⟩, rfl, ⟨w0, w1, w2, w3⟩⟩

theorem Node_arg {ad : AD} (h : ShA Try.prog 167 ad) : ∃ x : Node, ad = .agg x.e ∧ x.wf := by
  cases ad with
  | one d => have := h.2; simp [aggT, Try.underlying167] at this
  | agg ds =>
    obtain ⟨x, rfl, hx⟩ := Node_of h.1
    exact ⟨x, rfl, hx⟩

theorem Records_of {ds : List D} (h : ShD Try.prog 22 ds) : ∃ xs : List Record, ds = [.sl 5 (xs.map Record.e)] ∧ (xs.length : Int) ≤ 9223372036854775807 ∧ ∀ a ∈ xs, (Record.wf) a :=
  list_of Record.e (Record.wf) Try.underlying22 Try.cells26 (fun ds h => Record_of h) h

theorem Try.cells22 : Try.prog.cellsOf 22 = 1 := by kernel_rfl

theorem Try.cells137 : Try.prog.cellsOf 137 = 6 := by kernel_rfl

theorem Link_of {ds : List D} (h : ShD Try.prog 137 ds) : ∃ x : Link, ds = x.e ∧ x.wf := by
  obtain ⟨hl, hf⟩ := struct_of Try.underlying137 h
  rw [Try.cells137] at hl
  obtain ⟨a0, a1, a2, a3, a4, a5, rfl⟩ := lst6 hl
  have g0 : ShD Try.prog 3 [a0] := by
    have := hf _ (List.mem_cons_self ..)
    rw [Try.cells3] at this
    exact this
  obtain ⟨v0, e0, w0⟩ := int_of Try.underlying3 g0
  obtain rfl := (List.cons.inj e0).1
  have g1 : ShD Try.prog 22 [a1] := by
    have := hf _ (List.mem_cons_of_mem _ (List.mem_cons_self ..))
    rw [Try.cells22] at this
    exact this
  obtain ⟨v1, e1, w1⟩ := Records_of g1
  obtain rfl := (List.cons.inj e1).1
  have g2 : ShD Try.prog 3 [a2] := by
    have := hf _ (List.mem_cons_of_mem _ (List.mem_cons_of_mem _ (List.mem_cons_self ..)))
    rw [Try.cells3] at this
    exact this
  obtain ⟨v2, e2, w2⟩ := int_of Try.underlying3 g2
  obtain rfl := (List.cons.inj e2).1
  have g3 : ShD Try.prog 3 [a3] := by
    have := hf _ (List.mem_cons_of_mem _ (List.mem_cons_of_mem _ (List.mem_cons_of_mem _ (List.mem_cons_self ..))))
    rw [Try.cells3] at this
    exact this
  obtain ⟨v3, e3, w3⟩ := int_of Try.underlying3 g3
  obtain rfl := (List.cons.inj e3).1
  have g4 : ShD Try.prog 3 [a4] := by
    have := hf _ (List.mem_cons_of_mem _ (List.mem_cons_of_mem _ (List.mem_cons_of_mem _ (List.mem_cons_of_mem _ (List.mem_cons_self ..)))))
    rw [Try.cells3] at this
    exact this
  obtain ⟨v4, e4, w4⟩ := int_of Try.underlying3 g4
  obtain rfl := (List.cons.inj e4).1
  have g5 : ShD Try.prog 3 [a5] := by
    have := hf _ (List.mem_cons_of_mem _ (List.mem_cons_of_mem _ (List.mem_cons_of_mem _ (List.mem_cons_of_mem _ (List.mem_cons_of_mem _ (List.mem_cons_self ..))))))
    rw [Try.cells3] at this
    exact this
  obtain ⟨v5, e5, w5⟩ := int_of Try.underlying3 g5
  obtain rfl := (List.cons.inj e5).1
  exact ⟨⟨v0, v1, v2, v3, v4, v5⟩, rfl, ⟨w0, w1, w2, w3, w4, w5⟩⟩

theorem Link_arg {ad : AD} (h : ShA Try.prog 137 ad) : ∃ x : Link, ad = .agg x.e ∧ x.wf := by
  cases ad with
  | one d => have := h.2; simp [aggT, Try.underlying137] at this
  | agg ds =>
    obtain ⟨x, rfl, hx⟩ := Link_of h.1
    exact ⟨x, rfl, hx⟩

theorem Nodes_of {ds : List D} (h : ShD Try.prog 38 ds) : ∃ xs : List Node, ds = [.sl 4 (xs.map Node.e)] ∧ (xs.length : Int) ≤ 9223372036854775807 ∧ ∀ a ∈ xs, (Node.wf) a :=
  list_of Node.e (Node.wf) Try.underlying38 Try.cells167 (fun ds h => Node_of h) h

theorem Try.cells38 : Try.prog.cellsOf 38 = 1 := by kernel_rfl

theorem Try.cells40 : Try.prog.cellsOf 40 = 3 := by kernel_rfl

theorem Graph_of {ds : List D} (h : ShD Try.prog 40 ds) : ∃ x : Graph, ds = x.e ∧ x.wf := by
  obtain ⟨hl, hf⟩ := struct_of Try.underlying40 h
  rw [Try.cells40] at hl
  obtain ⟨a0, a1, a2, rfl⟩ := lst3 hl
  have g0 : ShD Try.prog 38 [a0] := by
    have := hf _ (List.mem_cons_self ..)
    rw [Try.cells38] at this
    exact this
  obtain ⟨v0, e0, w0⟩ := Nodes_of g0
  obtain rfl := (List.cons.inj e0).1
  have g1 : ShD Try.prog 3 [a1] := by
    have := hf _ (List.mem_cons_of_mem _ (List.mem_cons_self ..))
    rw [Try.cells3] at this
    exact this
  obtain ⟨v1, e1, w1⟩ := int_of Try.underlying3 g1
  obtain rfl := (List.cons.inj e1).1
  have g2 : ShD Try.prog 3 [a2] := by
    have := hf _ (List.mem_cons_of_mem _ (List.mem_cons_of_mem _ (List.mem_cons_self ..)))
    rw [Try.cells3] at this
    exact this
  obtain ⟨v2, e2, w2⟩ := int_of Try.underlying3 g2
  obtain rfl := (List.cons.inj e2).1
  exact ⟨⟨v0, v1, v2⟩, rfl, ⟨w0, w1, w2⟩⟩

theorem Graph_arg {ad : AD} (h : ShA Try.prog 40 ad) : ∃ x : Graph, ad = .agg x.e ∧ x.wf := by
  cases ad with
  | one d => have := h.2; simp [aggT, Try.underlying40] at this
  | agg ds =>
    obtain ⟨x, rfl, hx⟩ := Graph_of h.1
    exact ⟨x, rfl, hx⟩

theorem Cells_of {ds : List D} (h : ShD Try.prog 131 ds) : ∃ xs : List Cell, ds = [.sl 4 (xs.map Cell.e)] ∧ (xs.length : Int) ≤ 9223372036854775807 ∧ ∀ a ∈ xs, (Cell.wf) a :=
  list_of Cell.e (Cell.wf) Try.underlying131 Try.cells201 (fun ds h => Cell_of h) h

theorem Try.cells131 : Try.prog.cellsOf 131 = 1 := by kernel_rfl

theorem bools_of {ds : List D} (h : ShD Try.prog 98 ds) : ∃ xs : List Bool, ds = [.sl 1 (xs.map eB)] ∧ (xs.length : Int) ≤ 9223372036854775807 ∧ ∀ a ∈ xs, (fun _ => True) a :=
  list_of eB (fun _ => True) Try.underlying98 Try.cells4 (fun ds h => (bool_of Try.underlying4 h).imp fun _ h => ⟨h, trivial⟩) h

theorem Try.cells98 : Try.prog.cellsOf 98 = 1 := by kernel_rfl

theorem Dones_of {ds : List D} (h : ShD Try.prog 132 ds) : ∃ xs : List Done, ds = [.sl 2 (xs.map Done.e)] ∧ (xs.length : Int) ≤ 9223372036854775807 ∧ ∀ a ∈ xs, (Done.wf) a :=
  list_of Done.e (Done.wf) Try.underlying132 Try.cells203 (fun ds h => Done_of h) h

theorem Try.cells132 : Try.prog.cellsOf 132 = 1 := by kernel_rfl

theorem Try.cells134 : Try.prog.cellsOf 134 = 8 := by kernel_rfl

theorem Worker_of {ds : List D} (h : ShD Try.prog 134 ds) : ∃ x : Worker, ds = x.e ∧ x.wf := by
  obtain ⟨hl, hf⟩ := struct_of Try.underlying134 h
  rw [Try.cells134] at hl
  obtain ⟨a0, a1, a2, a3, a4, a5, a6, a7, rfl⟩ := lst8 hl
  have g0 : ShD Try.prog 22 [a0] := by
    have := hf _ (List.mem_cons_self ..)
    rw [Try.cells22] at this
    exact this
  obtain ⟨v0, e0, w0⟩ := Records_of g0
  obtain rfl := (List.cons.inj e0).1
  have g1 : ShD Try.prog 22 [a1] := by
    have := hf _ (List.mem_cons_of_mem _ (List.mem_cons_self ..))
    rw [Try.cells22] at this
    exact this
  obtain ⟨v1, e1, w1⟩ := Records_of g1
  obtain rfl := (List.cons.inj e1).1
  have g2 : ShD Try.prog 22 [a2] := by
    have := hf _ (List.mem_cons_of_mem _ (List.mem_cons_of_mem _ (List.mem_cons_self ..)))
    rw [Try.cells22] at this
    exact this
  obtain ⟨v2, e2, w2⟩ := Records_of g2
  obtain rfl := (List.cons.inj e2).1
  have g3 : ShD Try.prog 131 [a3] := by
    have := hf _ (List.mem_cons_of_mem _ (List.mem_cons_of_mem _ (List.mem_cons_of_mem _ (List.mem_cons_self ..))))
    rw [Try.cells131] at this
    exact this
  obtain ⟨v3, e3, w3⟩ := Cells_of g3
  obtain rfl := (List.cons.inj e3).1
  have g4 : ShD Try.prog 97 [a4] := by
    have := hf _ (List.mem_cons_of_mem _ (List.mem_cons_of_mem _ (List.mem_cons_of_mem _ (List.mem_cons_of_mem _ (List.mem_cons_self ..)))))
    rw [Try.cells97] at this
    exact this
  obtain ⟨v4, e4, w4⟩ := ints_of g4
  obtain rfl := (List.cons.inj e4).1
  have g5 : ShD Try.prog 98 [a5] := by
    have := hf _ (List.mem_cons_of_mem _ (List.mem_cons_of_mem _ (List.mem_cons_of_mem _ (List.mem_cons_of_mem _ (List.mem_cons_of_mem _ (List.mem_cons_self ..))))))
    rw [Try.cells98] at this
    exact this
  obtain ⟨v5, e5, w5⟩ := bools_of g5
  obtain rfl := (List.cons.inj e5).1
  have g6 : ShD Try.prog 98 [a6] := by
    have := hf _ (List.mem_cons_of_mem _ (List.mem_cons_of_mem _ (List.mem_cons_of_mem _ (List.mem_cons_of_mem _ (List.mem_cons_of_mem _ (List.mem_cons_of_mem _ (List.mem_cons_self ..)))))))
    rw [Try.cells98] at this
    exact this
  obtain ⟨v6, e6, w6⟩ := bools_of g6
  obtain rfl := (List.cons.inj e6).1
  have g7 : ShD Try.prog 132 [a7] := by
    have := hf _ (List.mem_cons_of_mem _ (List.mem_cons_of_mem _ (List.mem_cons_of_mem _ (List.mem_cons_of_mem _ (List.mem_cons_of_mem _ (List.mem_cons_of_mem _ (List.mem_cons_of_mem _ (List.mem_cons_self ..))))))))
    rw [Try.cells132] at this
    exact this
  obtain ⟨v7, e7, w7⟩ := Dones_of g7
  obtain rfl := (List.cons.inj e7).1
  exact ⟨⟨v0, v1, v2, v3, v4, v5, v6, v7⟩, rfl, ⟨w0, w1, w2, w3, w4, w5.1, w6.1, w7⟩⟩

theorem Worker_arg {ad : AD} (h : ShA Try.prog 134 ad) : ∃ x : Worker, ad = .agg x.e ∧ x.wf := by
  cases ad with
  | one d => have := h.2; simp [aggT, Try.underlying134] at this
  | agg ds =>
    obtain ⟨x, rfl, hx⟩ := Worker_of h.1
    exact ⟨x, rfl, hx⟩

theorem Workers_of {ds : List D} (h : ShD Try.prog 41 ds) : ∃ xs : List Worker, ds = [.sl 8 (xs.map Worker.e)] ∧ (xs.length : Int) ≤ 9223372036854775807 ∧ ∀ a ∈ xs, (Worker.wf) a :=
  list_of Worker.e (Worker.wf) Try.underlying41 Try.cells134 (fun ds h => Worker_of h) h

theorem Try.cells41 : Try.prog.cellsOf 41 = 1 := by kernel_rfl

theorem Links_of {ds : List D} (h : ShD Try.prog 42 ds) : ∃ xs : List Link, ds = [.sl 6 (xs.map Link.e)] ∧ (xs.length : Int) ≤ 9223372036854775807 ∧ ∀ a ∈ xs, (Link.wf) a :=
  list_of Link.e (Link.wf) Try.underlying42 Try.cells137 (fun ds h => Link_of h) h

theorem Try.cells42 : Try.prog.cellsOf 42 = 1 := by kernel_rfl

theorem Tokens_of {ds : List D} (h : ShD Try.prog 43 ds) : ∃ xs : List Token, ds = [.sl 5 (xs.map Token.e)] ∧ (xs.length : Int) ≤ 9223372036854775807 ∧ ∀ a ∈ xs, (Token.wf) a :=
  list_of Token.e (Token.wf) Try.underlying43 Try.cells145 (fun ds h => Token_of h) h

theorem Try.cells43 : Try.prog.cellsOf 43 = 1 := by kernel_rfl

theorem Newss_of {ds : List D} (h : ShD Try.prog 44 ds) : ∃ xs : List News, ds = [.sl 3 (xs.map News.e)] ∧ (xs.length : Int) ≤ 9223372036854775807 ∧ ∀ a ∈ xs, (News.wf) a :=
  list_of News.e (News.wf) Try.underlying44 Try.cells149 (fun ds h => News_of h) h

theorem Try.cells44 : Try.prog.cellsOf 44 = 1 := by kernel_rfl

theorem Try.cells46 : Try.prog.cellsOf 46 = 7 := by kernel_rfl

theorem Cluster_of {ds : List D} (h : ShD Try.prog 46 ds) : ∃ x : Cluster, ds = x.e ∧ x.wf := by
  obtain ⟨hl, hf⟩ := struct_of Try.underlying46 h
  rw [Try.cells46] at hl
  obtain ⟨a0, a1, a2, a3, a4, a5, a6, rfl⟩ := lst7 hl
  have g0 : ShD Try.prog 40 [a0, a1, a2] := by
    have := hf _ (List.mem_cons_self ..)
    rw [Try.cells40] at this
    exact this
  obtain ⟨v0, e0, w0⟩ := Graph_of g0
  simp only [Graph.e, List.cons.injEq, and_true] at e0
  obtain ⟨rfl, rfl, rfl⟩ := e0
  have g1 : ShD Try.prog 41 [a3] := by
    have := hf _ (List.mem_cons_of_mem _ (List.mem_cons_self ..))
    rw [Try.cells41] at this
    exact this
  obtain ⟨v1, e1, w1⟩ := Workers_of g1
  obtain rfl := (List.cons.inj e1).1
  have g2 : ShD Try.prog 42 [a4] := by
    have := hf _ (List.mem_cons_of_mem _ (List.mem_cons_of_mem _ (List.mem_cons_self ..)))
    rw [Try.cells42] at this
    exact this
  obtain ⟨v2, e2, w2⟩ := Links_of g2
  obtain rfl := (List.cons.inj e2).1
  have g3 : ShD Try.prog 43 [a5] := by
    have := hf _ (List.mem_cons_of_mem _ (List.mem_cons_of_mem _ (List.mem_cons_of_mem _ (List.mem_cons_self ..))))
    rw [Try.cells43] at this
    exact this
  obtain ⟨v3, e3, w3⟩ := Tokens_of g3
  obtain rfl := (List.cons.inj e3).1
  have g4 : ShD Try.prog 44 [a6] := by
    have := hf _ (List.mem_cons_of_mem _ (List.mem_cons_of_mem _ (List.mem_cons_of_mem _ (List.mem_cons_of_mem _ (List.mem_cons_self ..)))))
    rw [Try.cells44] at this
    exact this
  obtain ⟨v4, e4, w4⟩ := Newss_of g4
  obtain rfl := (List.cons.inj e4).1
  exact ⟨⟨v0, v1, v2, v3, v4⟩, rfl, ⟨w0, w1, w2, w3, w4⟩⟩

theorem Cluster_arg {ad : AD} (h : ShA Try.prog 46 ad) : ∃ x : Cluster, ad = .agg x.e ∧ x.wf := by
  cases ad with
  | one d => have := h.2; simp [aggT, Try.underlying46] at this
  | agg ds =>
    obtain ⟨x, rfl, hx⟩ := Cluster_of h.1
    exact ⟨x, rfl, hx⟩

theorem ints_arg {ad : AD} (h : ShA Try.prog 97 ad) : ∃ xs : List Int, ad = .one (.sl 1 (xs.map eI)) ∧ (xs.length : Int) ≤ 9223372036854775807 ∧ ∀ a ∈ xs, (fun n => inInt .i64 n) a := by
  cases ad with
  | agg ds => have := h.2; simp [aggT, Try.underlying97] at this
  | one d =>
    obtain ⟨x, e, hx⟩ := ints_of h.1
    obtain rfl := (List.cons.inj e).1
    exact ⟨x, rfl, hx⟩

theorem bools_arg {ad : AD} (h : ShA Try.prog 98 ad) : ∃ xs : List Bool, ad = .one (.sl 1 (xs.map eB)) ∧ (xs.length : Int) ≤ 9223372036854775807 ∧ ∀ a ∈ xs, (fun _ => True) a := by
  cases ad with
  | agg ds => have := h.2; simp [aggT, Try.underlying98] at this
  | one d =>
    obtain ⟨x, e, hx⟩ := bools_of h.1
    obtain rfl := (List.cons.inj e).1
    exact ⟨x, rfl, hx⟩

theorem Records_arg {ad : AD} (h : ShA Try.prog 22 ad) : ∃ xs : List Record, ad = .one (.sl 5 (xs.map Record.e)) ∧ (xs.length : Int) ≤ 9223372036854775807 ∧ ∀ a ∈ xs, (Record.wf) a := by
  cases ad with
  | agg ds => have := h.2; simp [aggT, Try.underlying22] at this
  | one d =>
    obtain ⟨x, e, hx⟩ := Records_of h.1
    obtain rfl := (List.cons.inj e).1
    exact ⟨x, rfl, hx⟩

theorem Cells_arg {ad : AD} (h : ShA Try.prog 131 ad) : ∃ xs : List Cell, ad = .one (.sl 4 (xs.map Cell.e)) ∧ (xs.length : Int) ≤ 9223372036854775807 ∧ ∀ a ∈ xs, (Cell.wf) a := by
  cases ad with
  | agg ds => have := h.2; simp [aggT, Try.underlying131] at this
  | one d =>
    obtain ⟨x, e, hx⟩ := Cells_of h.1
    obtain rfl := (List.cons.inj e).1
    exact ⟨x, rfl, hx⟩

theorem Dones_arg {ad : AD} (h : ShA Try.prog 132 ad) : ∃ xs : List Done, ad = .one (.sl 2 (xs.map Done.e)) ∧ (xs.length : Int) ≤ 9223372036854775807 ∧ ∀ a ∈ xs, (Done.wf) a := by
  cases ad with
  | agg ds => have := h.2; simp [aggT, Try.underlying132] at this
  | one d =>
    obtain ⟨x, e, hx⟩ := Dones_of h.1
    obtain rfl := (List.cons.inj e).1
    exact ⟨x, rfl, hx⟩

theorem Tokens_arg {ad : AD} (h : ShA Try.prog 43 ad) : ∃ xs : List Token, ad = .one (.sl 5 (xs.map Token.e)) ∧ (xs.length : Int) ≤ 9223372036854775807 ∧ ∀ a ∈ xs, (Token.wf) a := by
  cases ad with
  | agg ds => have := h.2; simp [aggT, Try.underlying43] at this
  | one d =>
    obtain ⟨x, e, hx⟩ := Tokens_of h.1
    obtain rfl := (List.cons.inj e).1
    exact ⟨x, rfl, hx⟩

theorem Newss_arg {ad : AD} (h : ShA Try.prog 44 ad) : ∃ xs : List News, ad = .one (.sl 3 (xs.map News.e)) ∧ (xs.length : Int) ≤ 9223372036854775807 ∧ ∀ a ∈ xs, (News.wf) a := by
  cases ad with
  | agg ds => have := h.2; simp [aggT, Try.underlying44] at this
  | one d =>
    obtain ⟨x, e, hx⟩ := Newss_of h.1
    obtain rfl := (List.cons.inj e).1
    exact ⟨x, rfl, hx⟩

theorem Nodes_arg {ad : AD} (h : ShA Try.prog 38 ad) : ∃ xs : List Node, ad = .one (.sl 4 (xs.map Node.e)) ∧ (xs.length : Int) ≤ 9223372036854775807 ∧ ∀ a ∈ xs, (Node.wf) a := by
  cases ad with
  | agg ds => have := h.2; simp [aggT, Try.underlying38] at this
  | one d =>
    obtain ⟨x, e, hx⟩ := Nodes_of h.1
    obtain rfl := (List.cons.inj e).1
    exact ⟨x, rfl, hx⟩

theorem Links_arg {ad : AD} (h : ShA Try.prog 42 ad) : ∃ xs : List Link, ad = .one (.sl 6 (xs.map Link.e)) ∧ (xs.length : Int) ≤ 9223372036854775807 ∧ ∀ a ∈ xs, (Link.wf) a := by
  cases ad with
  | agg ds => have := h.2; simp [aggT, Try.underlying42] at this
  | one d =>
    obtain ⟨x, e, hx⟩ := Links_of h.1
    obtain rfl := (List.cons.inj e).1
    exact ⟨x, rfl, hx⟩

theorem Workers_arg {ad : AD} (h : ShA Try.prog 41 ad) : ∃ xs : List Worker, ad = .one (.sl 8 (xs.map Worker.e)) ∧ (xs.length : Int) ≤ 9223372036854775807 ∧ ∀ a ∈ xs, (Worker.wf) a := by
  cases ad with
  | agg ds => have := h.2; simp [aggT, Try.underlying41] at this
  | one d =>
    obtain ⟨x, e, hx⟩ := Workers_of h.1
    obtain rfl := (List.cons.inj e).1
    exact ⟨x, rfl, hx⟩

theorem int_arg {ad : AD} (h : ShA Try.prog 3 ad) : ∃ n, ad = .one (I n) ∧ inInt .i64 n := by
  cases ad with
  | agg ds => have := h.2; simp [aggT, Try.underlying3] at this
  | one d =>
    obtain ⟨x, e, hx⟩ := int_of Try.underlying3 h.1
    obtain rfl := (List.cons.inj e).1
    exact ⟨x, rfl, hx⟩

theorem bool_arg {ad : AD} (h : ShA Try.prog 4 ad) : ∃ b, ad = .one (B b) := by
  cases ad with
  | agg ds => have := h.2; simp [aggT, Try.underlying4] at this
  | one d =>
    obtain ⟨x, e⟩ := bool_of Try.underlying4 h.1
    obtain rfl := (List.cons.inj e).1
    exact ⟨x, rfl⟩

end Go.Proofs.Ytbbjajmimckabaa
