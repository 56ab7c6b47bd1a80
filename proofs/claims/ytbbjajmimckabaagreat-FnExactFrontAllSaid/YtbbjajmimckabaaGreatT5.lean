/- From a reading of an argument to a structure (printed by gentypes.py) -/
import Derived.Test.YtbbjajmimckabaaGreatT1
import Derived.Test.YtbbjajmimckabaaGreatR21
set_option linter.unusedVariables false
set_option linter.unusedSimpArgs false
namespace Go.Proofs.YtbbjajmimckabaaGreat
open Go.Sx Go.RowKit

theorem Tryz.own : ownKnob Tryz.prog.godebug = none := by kernel_rfl
theorem Tryz.laidOut : laidOutB Tryz.prog = true := by kernel_rfl

theorem int_of {P : Program} {t : TypeId} {ds : List D} (hu : P.underlying t = some (.int .i64)) (h : ShD P t ds) : ∃ n, ds = [I n] ∧ inInt .i64 n := by
  have h2 : ∃ n, ds = [.v (.int .i64 n)] ∧ (Lit.int .i64 n).wf = true := by cases h <;> simp_all
  obtain ⟨n, e, hw⟩ := h2
  refine ⟨n, e, ?_⟩
  simp [Lit.wf] at hw
  have h3 : IntKind.i64.min = -9223372036854775808 := rfl
  rw [h3] at hw
  exact hw

theorem bool_of {P : Program} {t : TypeId} {ds : List D} (hu : P.underlying t = some .bool) (h : ShD P t ds) : ∃ b, ds = [B b] := by
  cases h <;> simp_all

theorem slice_of {P : Program} {t e : TypeId} {ds : List D} (hu : P.underlying t = some (.slice e)) (h : ShD P t ds) : ∃ es, ds = [.sl (P.cellsOf e) es] ∧ es.length ≤ maxLen ∧ ∀ x ∈ es, ShD P e x := by
  cases h <;> simp_all

theorem struct_of {P : Program} {t : TypeId} {fs : Array Field} {ds : List D} (hu : P.underlying t = some (.struct fs)) (h : ShD P t ds) : ds.length = P.cellsOf t ∧ ∀ f ∈ fs.toList, ShD P f.type ((ds.drop f.offset).take (P.cellsOf f.type)) := by
  cases h <;> simp_all

theorem map_of {α : Type} (f : α → List D) (W : α → Prop) : ∀ {es : List (List D)}, (∀ ds ∈ es, ∃ a, ds = f a ∧ W a) → ∃ xs : List α, es = xs.map f ∧ ∀ a ∈ xs, W a
  | [], _ => ⟨[], rfl, by simp⟩
  | ds :: es, h => by
    obtain ⟨a, rfl, ha⟩ := h ds (by simp)
    obtain ⟨xs, rfl, hxs⟩ := map_of f W (es := es) fun x hx => h x (by simp [hx])
    refine ⟨a :: xs, rfl, fun b hb => ?_⟩
    rcases List.mem_cons.1 hb with rfl | hb
    · exact ha
    · exact hxs b hb

theorem list_of {α : Type} (f : α → List D) (W : α → Prop) {P : Program} {t e : TypeId} {k : Nat} (hu : P.underlying t = some (.slice e)) (hk : P.cellsOf e = k) (hel : ∀ ds, ShD P e ds → ∃ a, ds = f a ∧ W a) {ds : List D} (h : ShD P t ds) :
    ∃ xs : List α, ds = [.sl k (xs.map f)] ∧ (xs.length : Int) ≤ 9223372036854775807 ∧ ∀ a ∈ xs, W a := by
  obtain ⟨es, rfl, hl, he⟩ := slice_of hu h
  obtain ⟨xs, rfl, hxs⟩ := map_of f W fun ds hds => hel ds (he ds hds)
  refine ⟨xs, by rw [hk], ?_, hxs⟩
  have hm : maxLen = 9223372036854775807 := rfl
  rw [List.length_map] at hl
  omega

theorem lst1 {α : Type} {l : List α} (h : l.length = 1) : ∃ a0, l = [a0] := by
  match l, h with
  | [a0], _ => exact ⟨a0, rfl⟩
theorem lst2 {α : Type} {l : List α} (h : l.length = 2) : ∃ a0 a1, l = [a0, a1] := by
  match l, h with
  | [a0, a1], _ => exact ⟨a0, a1, rfl⟩
theorem lst3 {α : Type} {l : List α} (h : l.length = 3) : ∃ a0 a1 a2, l = [a0, a1, a2] := by
  match l, h with
  | [a0, a1, a2], _ => exact ⟨a0, a1, a2, rfl⟩
theorem lst4 {α : Type} {l : List α} (h : l.length = 4) : ∃ a0 a1 a2 a3, l = [a0, a1, a2, a3] := by
  match l, h with
  | [a0, a1, a2, a3], _ => exact ⟨a0, a1, a2, a3, rfl⟩
theorem lst5 {α : Type} {l : List α} (h : l.length = 5) : ∃ a0 a1 a2 a3 a4, l = [a0, a1, a2, a3, a4] := by
  match l, h with
  | [a0, a1, a2, a3, a4], _ => exact ⟨a0, a1, a2, a3, a4, rfl⟩
theorem lst6 {α : Type} {l : List α} (h : l.length = 6) : ∃ a0 a1 a2 a3 a4 a5, l = [a0, a1, a2, a3, a4, a5] := by
  match l, h with
  | [a0, a1, a2, a3, a4, a5], _ => exact ⟨a0, a1, a2, a3, a4, a5, rfl⟩
theorem lst7 {α : Type} {l : List α} (h : l.length = 7) : ∃ a0 a1 a2 a3 a4 a5 a6, l = [a0, a1, a2, a3, a4, a5, a6] := by
  match l, h with
  | [a0, a1, a2, a3, a4, a5, a6], _ => exact ⟨a0, a1, a2, a3, a4, a5, a6, rfl⟩
theorem lst8 {α : Type} {l : List α} (h : l.length = 8) : ∃ a0 a1 a2 a3 a4 a5 a6 a7, l = [a0, a1, a2, a3, a4, a5, a6, a7] := by
  match l, h with
  | [a0, a1, a2, a3, a4, a5, a6, a7], _ => exact ⟨a0, a1, a2, a3, a4, a5, a6, a7, rfl⟩

theorem Tryz.cells3 : Tryz.prog.cellsOf 3 = 1 := by kernel_rfl
theorem Tryz.cells4 : Tryz.prog.cellsOf 4 = 1 := by kernel_rfl
theorem Tryz.cells172 : Tryz.prog.cellsOf 172 = 2 := by kernel_rfl

theorem Stamp_of {ds : List D} (h : ShD Tryz.prog 172 ds) : ∃ x : Stamp, ds = x.e ∧ x.wf := by
  obtain ⟨hl, hf⟩ := struct_of Tryz.underlying172 h
  rw [Tryz.cells172] at hl
  obtain ⟨a0, a1, rfl⟩ := lst2 hl
  have g0 : ShD Tryz.prog 3 [a0] := by
    have := hf _ (List.mem_cons_self ..)
    rw [Tryz.cells3] at this
    exact this
  obtain ⟨v0, e0, w0⟩ := int_of Tryz.underlying3 g0
  obtain rfl := (List.cons.inj e0).1
  have g1 : ShD Tryz.prog 3 [a1] := by
    have := hf _ (List.mem_cons_of_mem _ (List.mem_cons_self ..))
    rw [Tryz.cells3] at this
    exact this
  obtain ⟨v1, e1, w1⟩ := int_of Tryz.underlying3 g1
  obtain rfl := (List.cons.inj e1).1
  exact ⟨⟨v0, v1⟩, rfl, ⟨w0, w1⟩⟩

theorem Stamp_arg {ad : AD} (h : ShA Tryz.prog 172 ad) : ∃ x : Stamp, ad = .agg x.e ∧ x.wf := by
  cases ad with
  | one d => have := h.2; simp [aggT, Tryz.underlying172] at this
  | agg ds =>
    obtain ⟨x, rfl, hx⟩ := Stamp_of h.1
    exact ⟨x, rfl, hx⟩

theorem Tryz.cells174 : Tryz.prog.cellsOf 174 = 5 := by kernel_rfl

theorem Record_of {ds : List D} (h : ShD Tryz.prog 174 ds) : ∃ x : Record, ds = x.e ∧ x.wf := by
  obtain ⟨hl, hf⟩ := struct_of Tryz.underlying174 h
  rw [Tryz.cells174] at hl
  obtain ⟨a0, a1, a2, a3, a4, rfl⟩ := lst5 hl
  have g0 : ShD Tryz.prog 3 [a0] := by
    have := hf _ (List.mem_cons_self ..)
    rw [Tryz.cells3] at this
    exact this
  obtain ⟨v0, e0, w0⟩ := int_of Tryz.underlying3 g0
  obtain rfl := (List.cons.inj e0).1
  have g1 : ShD Tryz.prog 172 [a1, a2] := by
    have := hf _ (List.mem_cons_of_mem _ (List.mem_cons_self ..))
    rw [Tryz.cells172] at this
    exact this
  obtain ⟨v1, e1, w1⟩ := Stamp_of g1
  simp only [Stamp.e, List.cons.injEq, and_true] at e1
  obtain ⟨rfl, rfl⟩ := e1
  have g2 : ShD Tryz.prog 3 [a3] := by
    have := hf _ (List.mem_cons_of_mem _ (List.mem_cons_of_mem _ (List.mem_cons_self ..)))
    rw [Tryz.cells3] at this
    exact this
  obtain ⟨v2, e2, w2⟩ := int_of Tryz.underlying3 g2
  obtain rfl := (List.cons.inj e2).1
  have g3 : ShD Tryz.prog 3 [a4] := by
    have := hf _ (List.mem_cons_of_mem _ (List.mem_cons_of_mem _ (List.mem_cons_of_mem _ (List.mem_cons_self ..))))
    rw [Tryz.cells3] at this
    exact this
  obtain ⟨v3, e3, w3⟩ := int_of Tryz.underlying3 g3
  obtain rfl := (List.cons.inj e3).1
  exact ⟨⟨v0, v1, v2, v3⟩, rfl, ⟨w0, w1, w2, w3⟩⟩

theorem Record_arg {ad : AD} (h : ShA Tryz.prog 174 ad) : ∃ x : Record, ad = .agg x.e ∧ x.wf := by
  cases ad with
  | one d => have := h.2; simp [aggT, Tryz.underlying174] at this
  | agg ds =>
    obtain ⟨x, rfl, hx⟩ := Record_of h.1
    exact ⟨x, rfl, hx⟩

theorem Tryz.cells176 : Tryz.prog.cellsOf 176 = 4 := by kernel_rfl

theorem Cell_of {ds : List D} (h : ShD Tryz.prog 176 ds) : ∃ x : Cell, ds = x.e ∧ x.wf := by
  obtain ⟨hl, hf⟩ := struct_of Tryz.underlying176 h
  rw [Tryz.cells176] at hl
  obtain ⟨a0, a1, a2, a3, rfl⟩ := lst4 hl
  have g0 : ShD Tryz.prog 3 [a0] := by
    have := hf _ (List.mem_cons_self ..)
    rw [Tryz.cells3] at this
    exact this
  obtain ⟨v0, e0, w0⟩ := int_of Tryz.underlying3 g0
  obtain rfl := (List.cons.inj e0).1
  have g1 : ShD Tryz.prog 3 [a1] := by
    have := hf _ (List.mem_cons_of_mem _ (List.mem_cons_self ..))
    rw [Tryz.cells3] at this
    exact this
  obtain ⟨v1, e1, w1⟩ := int_of Tryz.underlying3 g1
  obtain rfl := (List.cons.inj e1).1
  have g2 : ShD Tryz.prog 3 [a2] := by
    have := hf _ (List.mem_cons_of_mem _ (List.mem_cons_of_mem _ (List.mem_cons_self ..)))
    rw [Tryz.cells3] at this
    exact this
  obtain ⟨v2, e2, w2⟩ := int_of Tryz.underlying3 g2
  obtain rfl := (List.cons.inj e2).1
  have g3 : ShD Tryz.prog 3 [a3] := by
    have := hf _ (List.mem_cons_of_mem _ (List.mem_cons_of_mem _ (List.mem_cons_of_mem _ (List.mem_cons_self ..))))
    rw [Tryz.cells3] at this
    exact this
  obtain ⟨v3, e3, w3⟩ := int_of Tryz.underlying3 g3
  obtain rfl := (List.cons.inj e3).1
  exact ⟨⟨v0, v1, v2, v3⟩, rfl, ⟨w0, w1, w2, w3⟩⟩

theorem Cell_arg {ad : AD} (h : ShA Tryz.prog 176 ad) : ∃ x : Cell, ad = .agg x.e ∧ x.wf := by
  cases ad with
  | one d => have := h.2; simp [aggT, Tryz.underlying176] at this
  | agg ds =>
    obtain ⟨x, rfl, hx⟩ := Cell_of h.1
    exact ⟨x, rfl, hx⟩

theorem Tryz.cells178 : Tryz.prog.cellsOf 178 = 2 := by kernel_rfl

theorem Done_of {ds : List D} (h : ShD Tryz.prog 178 ds) : ∃ x : Done, ds = x.e ∧ x.wf := by
  obtain ⟨hl, hf⟩ := struct_of Tryz.underlying178 h
  rw [Tryz.cells178] at hl
  obtain ⟨a0, a1, rfl⟩ := lst2 hl
  have g0 : ShD Tryz.prog 3 [a0] := by
    have := hf _ (List.mem_cons_self ..)
    rw [Tryz.cells3] at this
    exact this
  obtain ⟨v0, e0, w0⟩ := int_of Tryz.underlying3 g0
  obtain rfl := (List.cons.inj e0).1
  have g1 : ShD Tryz.prog 4 [a1] := by
    have := hf _ (List.mem_cons_of_mem _ (List.mem_cons_self ..))
    rw [Tryz.cells4] at this
    exact this
  obtain ⟨v1, e1⟩ := bool_of Tryz.underlying4 g1
  obtain rfl := (List.cons.inj e1).1
  exact ⟨⟨v0, v1⟩, rfl, ⟨w0⟩⟩

theorem Done_arg {ad : AD} (h : ShA Tryz.prog 178 ad) : ∃ x : Done, ad = .agg x.e ∧ x.wf := by
  cases ad with
  | one d => have := h.2; simp [aggT, Tryz.underlying178] at this
  | agg ds =>
    obtain ⟨x, rfl, hx⟩ := Done_of h.1
    exact ⟨x, rfl, hx⟩

theorem Tryz.cells117 : Tryz.prog.cellsOf 117 = 5 := by kernel_rfl

theorem Token_of {ds : List D} (h : ShD Tryz.prog 117 ds) : ∃ x : Token, ds = x.e ∧ x.wf := by
  obtain ⟨hl, hf⟩ := struct_of Tryz.underlying117 h
  rw [Tryz.cells117] at hl
  obtain ⟨a0, a1, a2, a3, a4, rfl⟩ := lst5 hl
  have g0 : ShD Tryz.prog 4 [a0] := by
    have := hf _ (List.mem_cons_self ..)
    rw [Tryz.cells4] at this
    exact this
  obtain ⟨v0, e0⟩ := bool_of Tryz.underlying4 g0
  obtain rfl := (List.cons.inj e0).1
  have g1 : ShD Tryz.prog 3 [a1] := by
    have := hf _ (List.mem_cons_of_mem _ (List.mem_cons_self ..))
    rw [Tryz.cells3] at this
    exact this
  obtain ⟨v1, e1, w1⟩ := int_of Tryz.underlying3 g1
  obtain rfl := (List.cons.inj e1).1
  have g2 : ShD Tryz.prog 3 [a2] := by
    have := hf _ (List.mem_cons_of_mem _ (List.mem_cons_of_mem _ (List.mem_cons_self ..)))
    rw [Tryz.cells3] at this
    exact this
  obtain ⟨v2, e2, w2⟩ := int_of Tryz.underlying3 g2
  obtain rfl := (List.cons.inj e2).1
  have g3 : ShD Tryz.prog 4 [a3] := by
    have := hf _ (List.mem_cons_of_mem _ (List.mem_cons_of_mem _ (List.mem_cons_of_mem _ (List.mem_cons_self ..))))
    rw [Tryz.cells4] at this
    exact this
  obtain ⟨v3, e3⟩ := bool_of Tryz.underlying4 g3
  obtain rfl := (List.cons.inj e3).1
  have g4 : ShD Tryz.prog 4 [a4] := by
    have := hf _ (List.mem_cons_of_mem _ (List.mem_cons_of_mem _ (List.mem_cons_of_mem _ (List.mem_cons_of_mem _ (List.mem_cons_self ..)))))
    rw [Tryz.cells4] at this
    exact this
  obtain ⟨v4, e4⟩ := bool_of Tryz.underlying4 g4
  obtain rfl := (List.cons.inj e4).1
  exact ⟨⟨v0, v1, v2, v3, v4⟩, rfl, ⟨w1, w2⟩⟩

theorem Token_arg {ad : AD} (h : ShA Tryz.prog 117 ad) : ∃ x : Token, ad = .agg x.e ∧ x.wf := by
  cases ad with
  | one d => have := h.2; simp [aggT, Tryz.underlying117] at this
  | agg ds =>
    obtain ⟨x, rfl, hx⟩ := Token_of h.1
    exact ⟨x, rfl, hx⟩

theorem Tryz.cells119 : Tryz.prog.cellsOf 119 = 3 := by kernel_rfl

theorem News_of {ds : List D} (h : ShD Tryz.prog 119 ds) : ∃ x : News, ds = x.e ∧ x.wf := by
  obtain ⟨hl, hf⟩ := struct_of Tryz.underlying119 h
  rw [Tryz.cells119] at hl
  obtain ⟨a0, a1, a2, rfl⟩ := lst3 hl
  have g0 : ShD Tryz.prog 3 [a0] := by
    have := hf _ (List.mem_cons_self ..)
    rw [Tryz.cells3] at this
    exact this
  obtain ⟨v0, e0, w0⟩ := int_of Tryz.underlying3 g0
  obtain rfl := (List.cons.inj e0).1
  have g1 : ShD Tryz.prog 3 [a1] := by
    have := hf _ (List.mem_cons_of_mem _ (List.mem_cons_self ..))
    rw [Tryz.cells3] at this
    exact this
  obtain ⟨v1, e1, w1⟩ := int_of Tryz.underlying3 g1
  obtain rfl := (List.cons.inj e1).1
  have g2 : ShD Tryz.prog 4 [a2] := by
    have := hf _ (List.mem_cons_of_mem _ (List.mem_cons_of_mem _ (List.mem_cons_self ..)))
    rw [Tryz.cells4] at this
    exact this
  obtain ⟨v2, e2⟩ := bool_of Tryz.underlying4 g2
  obtain rfl := (List.cons.inj e2).1
  exact ⟨⟨v0, v1, v2⟩, rfl, ⟨w0, w1⟩⟩

theorem News_arg {ad : AD} (h : ShA Tryz.prog 119 ad) : ∃ x : News, ad = .agg x.e ∧ x.wf := by
  cases ad with
  | one d => have := h.2; simp [aggT, Tryz.underlying119] at this
  | agg ds =>
    obtain ⟨x, rfl, hx⟩ := News_of h.1
    exact ⟨x, rfl, hx⟩

theorem ints_of {ds : List D} (h : ShD Tryz.prog 62 ds) : ∃ xs : List Int, ds = [.sl 1 (xs.map eI)] ∧ (xs.length : Int) ≤ 9223372036854775807 ∧ ∀ a ∈ xs, (fun n => inInt .i64 n) a :=
  list_of eI (fun n => inInt .i64 n) Tryz.underlying62 Tryz.cells3 (fun ds h => int_of Tryz.underlying3 h) h

theorem Tryz.cells62 : Tryz.prog.cellsOf 62 = 1 := by kernel_rfl

theorem Tryz.cells143 : Tryz.prog.cellsOf 143 = 4 := by kernel_rfl

theorem Node_of {ds : List D} (h : ShD Tryz.prog 143 ds) : ∃ x : Node, ds = x.e ∧ x.wf := by
  obtain ⟨hl, hf⟩ := struct_of Tryz.underlying143 h
  rw [Tryz.cells143] at hl
  obtain ⟨a0, a1, a2, a3, rfl⟩ := lst4 hl
  have g0 : ShD Tryz.prog 3 [a0] := by
    have := hf _ (List.mem_cons_self ..)
    rw [Tryz.cells3] at this
    exact this
  obtain ⟨v0, e0, w0⟩ := int_of Tryz.underlying3 g0
  obtain rfl := (List.cons.inj e0).1
  have g1 : ShD Tryz.prog 3 [a1] := by
    have := hf _ (List.mem_cons_of_mem _ (List.mem_cons_self ..))
    rw [Tryz.cells3] at this
    exact this
  obtain ⟨v1, e1, w1⟩ := int_of Tryz.underlying3 g1
  obtain rfl := (List.cons.inj e1).1
  have g2 : ShD Tryz.prog 3 [a2] := by
    have := hf _ (List.mem_cons_of_mem _ (List.mem_cons_of_mem _ (List.mem_cons_self ..)))
    rw [Tryz.cells3] at this
    exact this
  obtain ⟨v2, e2, w2⟩ := int_of Tryz.underlying3 g2
  obtain rfl := (List.cons.inj e2).1
  have g3 : ShD Tryz.prog 62 [a3] := by
    have := hf _ (List.mem_cons_of_mem _ (List.mem_cons_of_mem _ (List.mem_cons_of_mem _ (List.mem_cons_self ..))))
    rw [Tryz.cells62] at this
    exact this
  obtain ⟨v3, e3, w3⟩ := ints_of g3
  obtain rfl := (List.cons.inj e3).1
  exact ⟨⟨v0, v1, v2, v3⟩, rfl, ⟨w0, w1, w2, w3⟩⟩

theorem Node_arg {ad : AD} (h : ShA Tryz.prog 143 ad) : ∃ x : Node, ad = .agg x.e ∧ x.wf := by
  cases ad with
  | one d => have := h.2; simp [aggT, Tryz.underlying143] at this
  | agg ds =>
    obtain ⟨x, rfl, hx⟩ := Node_of h.1
    exact ⟨x, rfl, hx⟩

theorem Records_of {ds : List D} (h : ShD Tryz.prog 102 ds) : ∃ xs : List Record, ds = [.sl 5 (xs.map Record.e)] ∧ (xs.length : Int) ≤ 9223372036854775807 ∧ ∀ a ∈ xs, (Record.wf) a :=
  list_of Record.e (Record.wf) Tryz.underlying102 Tryz.cells174 (fun ds h => Record_of h) h

theorem Tryz.cells102 : Tryz.prog.cellsOf 102 = 1 := by kernel_rfl

theorem Tryz.cells109 : Tryz.prog.cellsOf 109 = 6 := by kernel_rfl

theorem Link_of {ds : List D} (h : ShD Tryz.prog 109 ds) : ∃ x : Link, ds = x.e ∧ x.wf := by
  obtain ⟨hl, hf⟩ := struct_of Tryz.underlying109 h
  rw [Tryz.cells109] at hl
  obtain ⟨a0, a1, a2, a3, a4, a5, rfl⟩ := lst6 hl
  have g0 : ShD Tryz.prog 3 [a0] := by
    have := hf _ (List.mem_cons_self ..)
    rw [Tryz.cells3] at this
    exact this
  obtain ⟨v0, e0, w0⟩ := int_of Tryz.underlying3 g0
  obtain rfl := (List.cons.inj e0).1
  have g1 : ShD Tryz.prog 102 [a1] := by
    have := hf _ (List.mem_cons_of_mem _ (List.mem_cons_self ..))
    rw [Tryz.cells102] at this
    exact this
  obtain ⟨v1, e1, w1⟩ := Records_of g1
  obtain rfl := (List.cons.inj e1).1
  have g2 : ShD Tryz.prog 3 [a2] := by
    have := hf _ (List.mem_cons_of_mem _ (List.mem_cons_of_mem _ (List.mem_cons_self ..)))
    rw [Tryz.cells3] at this
    exact this
  obtain ⟨v2, e2, w2⟩ := int_of Tryz.underlying3 g2
  obtain rfl := (List.cons.inj e2).1
  have g3 : ShD Tryz.prog 3 [a3] := by
    have := hf _ (List.mem_cons_of_mem _ (List.mem_cons_of_mem _ (List.mem_cons_of_mem _ (List.mem_cons_self ..))))
    rw [Tryz.cells3] at this
    exact this
  obtain ⟨v3, e3, w3⟩ := int_of Tryz.underlying3 g3
  obtain rfl := (List.cons.inj e3).1
  have g4 : ShD Tryz.prog 3 [a4] := by
    have := hf _ (List.mem_cons_of_mem _ (List.mem_cons_of_mem _ (List.mem_cons_of_mem _ (List.mem_cons_of_mem _ (List.mem_cons_self ..)))))
    rw [Tryz.cells3] at this
    exact this
  obtain ⟨v4, e4, w4⟩ := int_of Tryz.underlying3 g4
  obtain rfl := (List.cons.inj e4).1
  have g5 : ShD Tryz.prog 3 [a5] := by
    have := hf _ (List.mem_cons_of_mem _ (List.mem_cons_of_mem _ (List.mem_cons_of_mem _ (List.mem_cons_of_mem _ (List.mem_cons_of_mem _ (List.mem_cons_self ..))))))
    rw [Tryz.cells3] at this
    exact this
  obtain ⟨v5, e5, w5⟩ := int_of Tryz.underlying3 g5
  obtain rfl := (List.cons.inj e5).1
  exact ⟨⟨v0, v1, v2, v3, v4, v5⟩, rfl, ⟨w0, w1, w2, w3, w4, w5⟩⟩

theorem Link_arg {ad : AD} (h : ShA Tryz.prog 109 ad) : ∃ x : Link, ad = .agg x.e ∧ x.wf := by
  cases ad with
  | one d => have := h.2; simp [aggT, Tryz.underlying109] at this
  | agg ds =>
    obtain ⟨x, rfl, hx⟩ := Link_of h.1
    exact ⟨x, rfl, hx⟩

theorem Nodes_of {ds : List D} (h : ShD Tryz.prog 22 ds) : ∃ xs : List Node, ds = [.sl 4 (xs.map Node.e)] ∧ (xs.length : Int) ≤ 9223372036854775807 ∧ ∀ a ∈ xs, (Node.wf) a :=
  list_of Node.e (Node.wf) Tryz.underlying22 Tryz.cells143 (fun ds h => Node_of h) h

theorem Tryz.cells22 : Tryz.prog.cellsOf 22 = 1 := by kernel_rfl

theorem Tryz.cells24 : Tryz.prog.cellsOf 24 = 3 := by kernel_rfl

theorem Graph_of {ds : List D} (h : ShD Tryz.prog 24 ds) : ∃ x : Graph, ds = x.e ∧ x.wf := by
  obtain ⟨hl, hf⟩ := struct_of Tryz.underlying24 h
  rw [Tryz.cells24] at hl
  obtain ⟨a0, a1, a2, rfl⟩ := lst3 hl
  have g0 : ShD Tryz.prog 22 [a0] := by
    have := hf _ (List.mem_cons_self ..)
    rw [Tryz.cells22] at this
    exact this
  obtain ⟨v0, e0, w0⟩ := Nodes_of g0
  obtain rfl := (List.cons.inj e0).1
  have g1 : ShD Tryz.prog 3 [a1] := by
    have := hf _ (List.mem_cons_of_mem _ (List.mem_cons_self ..))
    rw [Tryz.cells3] at this
    exact this
  obtain ⟨v1, e1, w1⟩ := int_of Tryz.underlying3 g1
  obtain rfl := (List.cons.inj e1).1
  have g2 : ShD Tryz.prog 3 [a2] := by
    have := hf _ (List.mem_cons_of_mem _ (List.mem_cons_of_mem _ (List.mem_cons_self ..)))
    rw [Tryz.cells3] at this
    exact this
  obtain ⟨v2, e2, w2⟩ := int_of Tryz.underlying3 g2
  obtain rfl := (List.cons.inj e2).1
  exact ⟨⟨v0, v1, v2⟩, rfl, ⟨w0, w1, w2⟩⟩

theorem Graph_arg {ad : AD} (h : ShA Tryz.prog 24 ad) : ∃ x : Graph, ad = .agg x.e ∧ x.wf := by
  cases ad with
  | one d => have := h.2; simp [aggT, Tryz.underlying24] at this
  | agg ds =>
    obtain ⟨x, rfl, hx⟩ := Graph_of h.1
    exact ⟨x, rfl, hx⟩

theorem Cells_of {ds : List D} (h : ShD Tryz.prog 103 ds) : ∃ xs : List Cell, ds = [.sl 4 (xs.map Cell.e)] ∧ (xs.length : Int) ≤ 9223372036854775807 ∧ ∀ a ∈ xs, (Cell.wf) a :=
  list_of Cell.e (Cell.wf) Tryz.underlying103 Tryz.cells176 (fun ds h => Cell_of h) h

theorem Tryz.cells103 : Tryz.prog.cellsOf 103 = 1 := by kernel_rfl

theorem bools_of {ds : List D} (h : ShD Tryz.prog 63 ds) : ∃ xs : List Bool, ds = [.sl 1 (xs.map eB)] ∧ (xs.length : Int) ≤ 9223372036854775807 ∧ ∀ a ∈ xs, (fun _ => True) a :=
  list_of eB (fun _ => True) Tryz.underlying63 Tryz.cells4 (fun ds h => (bool_of Tryz.underlying4 h).imp fun _ h => ⟨h, trivial⟩) h

theorem Tryz.cells63 : Tryz.prog.cellsOf 63 = 1 := by kernel_rfl

theorem Dones_of {ds : List D} (h : ShD Tryz.prog 104 ds) : ∃ xs : List Done, ds = [.sl 2 (xs.map Done.e)] ∧ (xs.length : Int) ≤ 9223372036854775807 ∧ ∀ a ∈ xs, (Done.wf) a :=
  list_of Done.e (Done.wf) Tryz.underlying104 Tryz.cells178 (fun ds h => Done_of h) h

theorem Tryz.cells104 : Tryz.prog.cellsOf 104 = 1 := by kernel_rfl

theorem Tryz.cells106 : Tryz.prog.cellsOf 106 = 8 := by kernel_rfl

theorem Worker_of {ds : List D} (h : ShD Tryz.prog 106 ds) : ∃ x : Worker, ds = x.e ∧ x.wf := by
  obtain ⟨hl, hf⟩ := struct_of Tryz.underlying106 h
  rw [Tryz.cells106] at hl
  obtain ⟨a0, a1, a2, a3, a4, a5, a6, a7, rfl⟩ := lst8 hl
  have g0 : ShD Tryz.prog 102 [a0] := by
    have := hf _ (List.mem_cons_self ..)
    rw [Tryz.cells102] at this
    exact this
  obtain ⟨v0, e0, w0⟩ := Records_of g0
  obtain rfl := (List.cons.inj e0).1
  have g1 : ShD Tryz.prog 102 [a1] := by
    have := hf _ (List.mem_cons_of_mem _ (List.mem_cons_self ..))
    rw [Tryz.cells102] at this
    exact this
  obtain ⟨v1, e1, w1⟩ := Records_of g1
  obtain rfl := (List.cons.inj e1).1
  have g2 : ShD Tryz.prog 102 [a2] := by
    have := hf _ (List.mem_cons_of_mem _ (List.mem_cons_of_mem _ (List.mem_cons_self ..)))
    rw [Tryz.cells102] at this
    exact this
  obtain ⟨v2, e2, w2⟩ := Records_of g2
  obtain rfl := (List.cons.inj e2).1
  have g3 : ShD Tryz.prog 103 [a3] := by
    have := hf _ (List.mem_cons_of_mem _ (List.mem_cons_of_mem _ (List.mem_cons_of_mem _ (List.mem_cons_self ..))))
    rw [Tryz.cells103] at this
    exact this
  obtain ⟨v3, e3, w3⟩ := Cells_of g3
  obtain rfl := (List.cons.inj e3).1
  have g4 : ShD Tryz.prog 62 [a4] := by
    have := hf _ (List.mem_cons_of_mem _ (List.mem_cons_of_mem _ (List.mem_cons_of_mem _ (List.mem_cons_of_mem _ (List.mem_cons_self ..)))))
    rw [Tryz.cells62] at this
    exact this
  obtain ⟨v4, e4, w4⟩ := ints_of g4
  obtain rfl := (List.cons.inj e4).1
  have g5 : ShD Tryz.prog 63 [a5] := by
    have := hf _ (List.mem_cons_of_mem _ (List.mem_cons_of_mem _ (List.mem_cons_of_mem _ (List.mem_cons_of_mem _ (List.mem_cons_of_mem _ (List.mem_cons_self ..))))))
    rw [Tryz.cells63] at this
    exact this
  obtain ⟨v5, e5, w5⟩ := bools_of g5
  obtain rfl := (List.cons.inj e5).1
  have g6 : ShD Tryz.prog 63 [a6] := by
    have := hf _ (List.mem_cons_of_mem _ (List.mem_cons_of_mem _ (List.mem_cons_of_mem _ (List.mem_cons_of_mem _ (List.mem_cons_of_mem _ (List.mem_cons_of_mem _ (List.mem_cons_self ..)))))))
    rw [Tryz.cells63] at this
    exact this
  obtain ⟨v6, e6, w6⟩ := bools_of g6
  obtain rfl := (List.cons.inj e6).1
  have g7 : ShD Tryz.prog 104 [a7] := by
    have := hf _ (List.mem_cons_of_mem _ (List.mem_cons_of_mem _ (List.mem_cons_of_mem _ (List.mem_cons_of_mem _ (List.mem_cons_of_mem _ (List.mem_cons_of_mem _ (List.mem_cons_of_mem _ (List.mem_cons_self ..))))))))
    rw [Tryz.cells104] at this
    exact this
  obtain ⟨v7, e7, w7⟩ := Dones_of g7
  obtain rfl := (List.cons.inj e7).1
  exact ⟨⟨v0, v1, v2, v3, v4, v5, v6, v7⟩, rfl, ⟨w0, w1, w2, w3, w4, w5.1, w6.1, w7⟩⟩

theorem Worker_arg {ad : AD} (h : ShA Tryz.prog 106 ad) : ∃ x : Worker, ad = .agg x.e ∧ x.wf := by
  cases ad with
  | one d => have := h.2; simp [aggT, Tryz.underlying106] at this
  | agg ds =>
    obtain ⟨x, rfl, hx⟩ := Worker_of h.1
    exact ⟨x, rfl, hx⟩

theorem Workers_of {ds : List D} (h : ShD Tryz.prog 25 ds) : ∃ xs : List Worker, ds = [.sl 8 (xs.map Worker.e)] ∧ (xs.length : Int) ≤ 9223372036854775807 ∧ ∀ a ∈ xs, (Worker.wf) a :=
  list_of Worker.e (Worker.wf) Tryz.underlying25 Tryz.cells106 (fun ds h => Worker_of h) h

theorem Tryz.cells25 : Tryz.prog.cellsOf 25 = 1 := by kernel_rfl

theorem Links_of {ds : List D} (h : ShD Tryz.prog 26 ds) : ∃ xs : List Link, ds = [.sl 6 (xs.map Link.e)] ∧ (xs.length : Int) ≤ 9223372036854775807 ∧ ∀ a ∈ xs, (Link.wf) a :=
  list_of Link.e (Link.wf) Tryz.underlying26 Tryz.cells109 (fun ds h => Link_of h) h

theorem Tryz.cells26 : Tryz.prog.cellsOf 26 = 1 := by kernel_rfl

theorem Tokens_of {ds : List D} (h : ShD Tryz.prog 27 ds) : ∃ xs : List Token, ds = [.sl 5 (xs.map Token.e)] ∧ (xs.length : Int) ≤ 9223372036854775807 ∧ ∀ a ∈ xs, (Token.wf) a :=
  list_of Token.e (Token.wf) Tryz.underlying27 Tryz.cells117 (fun ds h => Token_of h) h

theorem Tryz.cells27 : Tryz.prog.cellsOf 27 = 1 := by kernel_rfl

theorem Newss_of {ds : List D} (h : ShD Tryz.prog 28 ds) : ∃ xs : List News, ds = [.sl 3 (xs.map News.e)] ∧ (xs.length : Int) ≤ 9223372036854775807 ∧ ∀ a ∈ xs, (News.wf) a :=
  list_of News.e (News.wf) Tryz.underlying28 Tryz.cells119 (fun ds h => News_of h) h

theorem Tryz.cells28 : Tryz.prog.cellsOf 28 = 1 := by kernel_rfl

theorem Tryz.cells30 : Tryz.prog.cellsOf 30 = 7 := by kernel_rfl

theorem Cluster_of {ds : List D} (h : ShD Tryz.prog 30 ds) : ∃ x : Cluster, ds = x.e ∧ x.wf := by
  obtain ⟨hl, hf⟩ := struct_of Tryz.underlying30 h
  rw [Tryz.cells30] at hl
  obtain ⟨a0, a1, a2, a3, a4, a5, a6, rfl⟩ := lst7 hl
  have g0 : ShD Tryz.prog 24 [a0, a1, a2] := by
    have := hf _ (List.mem_cons_self ..)
    rw [Tryz.cells24] at this
    exact this
  obtain ⟨v0, e0, w0⟩ := Graph_of g0
  simp only [Graph.e, List.cons.injEq, and_true] at e0
  obtain ⟨rfl, rfl, rfl⟩ := e0
  have g1 : ShD Tryz.prog 25 [a3] := by
    have := hf _ (List.mem_cons_of_mem _ (List.mem_cons_self ..))
    rw [Tryz.cells25] at this
    exact this
  obtain ⟨v1, e1, w1⟩ := Workers_of g1
  obtain rfl := (List.cons.inj e1).1
  have g2 : ShD Tryz.prog 26 [a4] := by
    have := hf _ (List.mem_cons_of_mem _ (List.mem_cons_of_mem _ (List.mem_cons_self ..)))
    rw [Tryz.cells26] at this
    exact this
  obtain ⟨v2, e2, w2⟩ := Links_of g2
  obtain rfl := (List.cons.inj e2).1
  have g3 : ShD Tryz.prog 27 [a5] := by
    have := hf _ (List.mem_cons_of_mem _ (List.mem_cons_of_mem _ (List.mem_cons_of_mem _ (List.mem_cons_self ..))))
    rw [Tryz.cells27] at this
    exact this
  obtain ⟨v3, e3, w3⟩ := Tokens_of g3
  obtain rfl := (List.cons.inj e3).1
  have g4 : ShD Tryz.prog 28 [a6] := by
    have := hf _ (List.mem_cons_of_mem _ (List.mem_cons_of_mem _ (List.mem_cons_of_mem _ (List.mem_cons_of_mem _ (List.mem_cons_self ..)))))
    rw [Tryz.cells28] at this
    exact this
  obtain ⟨v4, e4, w4⟩ := Newss_of g4
  obtain rfl := (List.cons.inj e4).1
  exact ⟨⟨v0, v1, v2, v3, v4⟩, rfl, ⟨w0, w1, w2, w3, w4⟩⟩

theorem Cluster_arg {ad : AD} (h : ShA Tryz.prog 30 ad) : ∃ x : Cluster, ad = .agg x.e ∧ x.wf := by
  cases ad with
  | one d => have := h.2; simp [aggT, Tryz.underlying30] at this
  | agg ds =>
    obtain ⟨x, rfl, hx⟩ := Cluster_of h.1
    exact ⟨x, rfl, hx⟩

theorem ints_arg {ad : AD} (h : ShA Tryz.prog 62 ad) : ∃ xs : List Int, ad = .one (.sl 1 (xs.map eI)) ∧ (xs.length : Int) ≤ 9223372036854775807 ∧ ∀ a ∈ xs, (fun n => inInt .i64 n) a := by
  cases ad with
  | agg ds => have := h.2; simp [aggT, Tryz.underlying62] at this
  | one d =>
    obtain ⟨x, e, hx⟩ := ints_of h.1
    obtain rfl := (List.cons.inj e).1
    exact ⟨x, rfl, hx⟩

theorem bools_arg {ad : AD} (h : ShA Tryz.prog 63 ad) : ∃ xs : List Bool, ad = .one (.sl 1 (xs.map eB)) ∧ (xs.length : Int) ≤ 9223372036854775807 ∧ ∀ a ∈ xs, (fun _ => True) a := by
  cases ad with
  | agg ds => have := h.2; simp [aggT, Tryz.underlying63] at this
  | one d =>
    obtain ⟨x, e, hx⟩ := bools_of h.1
    obtain rfl := (List.cons.inj e).1
    exact ⟨x, rfl, hx⟩

theorem Records_arg {ad : AD} (h : ShA Tryz.prog 102 ad) : ∃ xs : List Record, ad = .one (.sl 5 (xs.map Record.e)) ∧ (xs.length : Int) ≤ 9223372036854775807 ∧ ∀ a ∈ xs, (Record.wf) a := by
  cases ad with
  | agg ds => have := h.2; simp [aggT, Tryz.underlying102] at this
  | one d =>
    obtain ⟨x, e, hx⟩ := Records_of h.1
    obtain rfl := (List.cons.inj e).1
    exact ⟨x, rfl, hx⟩

theorem Cells_arg {ad : AD} (h : ShA Tryz.prog 103 ad) : ∃ xs : List Cell, ad = .one (.sl 4 (xs.map Cell.e)) ∧ (xs.length : Int) ≤ 9223372036854775807 ∧ ∀ a ∈ xs, (Cell.wf) a := by
  cases ad with
  | agg ds => have := h.2; simp [aggT, Tryz.underlying103] at this
  | one d =>
    obtain ⟨x, e, hx⟩ := Cells_of h.1
    obtain rfl := (List.cons.inj e).1
    exact ⟨x, rfl, hx⟩

theorem Dones_arg {ad : AD} (h : ShA Tryz.prog 104 ad) : ∃ xs : List Done, ad = .one (.sl 2 (xs.map Done.e)) ∧ (xs.length : Int) ≤ 9223372036854775807 ∧ ∀ a ∈ xs, (Done.wf) a := by
  cases ad with
  | agg ds => have := h.2; simp [aggT, Tryz.underlying104] at this
  | one d =>
    obtain ⟨x, e, hx⟩ := Dones_of h.1
    obtain rfl := (List.cons.inj e).1
    exact ⟨x, rfl, hx⟩

theorem Tokens_arg {ad : AD} (h : ShA Tryz.prog 27 ad) : ∃ xs : List Token, ad = .one (.sl 5 (xs.map Token.e)) ∧ (xs.length : Int) ≤ 9223372036854775807 ∧ ∀ a ∈ xs, (Token.wf) a := by
  cases ad with
  | agg ds => have := h.2; simp [aggT, Tryz.underlying27] at this
  | one d =>
    obtain ⟨x, e, hx⟩ := Tokens_of h.1
    obtain rfl := (List.cons.inj e).1
    exact ⟨x, rfl, hx⟩

theorem Newss_arg {ad : AD} (h : ShA Tryz.prog 28 ad) : ∃ xs : List News, ad = .one (.sl 3 (xs.map News.e)) ∧ (xs.length : Int) ≤ 9223372036854775807 ∧ ∀ a ∈ xs, (News.wf) a := by
  cases ad with
  | agg ds => have := h.2; simp [aggT, Tryz.underlying28] at this
  | one d =>
    obtain ⟨x, e, hx⟩ := Newss_of h.1
    obtain rfl := (List.cons.inj e).1
    exact ⟨x, rfl, hx⟩

theorem Nodes_arg {ad : AD} (h : ShA Tryz.prog 22 ad) : ∃ xs : List Node, ad = .one (.sl 4 (xs.map Node.e)) ∧ (xs.length : Int) ≤ 9223372036854775807 ∧ ∀ a ∈ xs, (Node.wf) a := by
  cases ad with
  | agg ds => have := h.2; simp [aggT, Tryz.underlying22] at this
  | one d =>
    obtain ⟨x, e, hx⟩ := Nodes_of h.1
    obtain rfl := (List.cons.inj e).1
    exact ⟨x, rfl, hx⟩

theorem Links_arg {ad : AD} (h : ShA Tryz.prog 26 ad) : ∃ xs : List Link, ad = .one (.sl 6 (xs.map Link.e)) ∧ (xs.length : Int) ≤ 9223372036854775807 ∧ ∀ a ∈ xs, (Link.wf) a := by
  cases ad with
  | agg ds => have := h.2; simp [aggT, Tryz.underlying26] at this
  | one d =>
    obtain ⟨x, e, hx⟩ := Links_of h.1
    obtain rfl := (List.cons.inj e).1
    exact ⟨x, rfl, hx⟩

theorem Workers_arg {ad : AD} (h : ShA Tryz.prog 25 ad) : ∃ xs : List Worker, ad = .one (.sl 8 (xs.map Worker.e)) ∧ (xs.length : Int) ≤ 9223372036854775807 ∧ ∀ a ∈ xs, (Worker.wf) a := by
  cases ad with
  | agg ds => have := h.2; simp [aggT, Tryz.underlying25] at this
  | one d =>
    obtain ⟨x, e, hx⟩ := Workers_of h.1
    obtain rfl := (List.cons.inj e).1
    exact ⟨x, rfl, hx⟩

theorem int_arg {ad : AD} (h : ShA Tryz.prog 3 ad) : ∃ n, ad = .one (I n) ∧ inInt .i64 n := by
  cases ad with
  | agg ds => have := h.2; simp [aggT, Tryz.underlying3] at this
  | one d =>
    obtain ⟨x, e, hx⟩ := int_of Tryz.underlying3 h.1
    obtain rfl := (List.cons.inj e).1
    exact ⟨x, rfl, hx⟩

theorem bool_arg {ad : AD} (h : ShA Tryz.prog 4 ad) : ∃ b, ad = .one (B b) := by
  cases ad with
  | agg ds => have := h.2; simp [aggT, Tryz.underlying4] at this
  | one d =>
    obtain ⟨x, e⟩ := bool_of Tryz.underlying4 h.1
    obtain rfl := (List.cons.inj e).1
    exact ⟨x, rfl⟩

end Go.Proofs.YtbbjajmimckabaaGreat
