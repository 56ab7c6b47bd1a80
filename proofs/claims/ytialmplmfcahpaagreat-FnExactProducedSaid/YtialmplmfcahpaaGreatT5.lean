/- From a reading of an argument to a structure (printed by gentypes.py) -/
import Derived.Test.YtialmplmfcahpaaGreatT1
import Derived.Test.YtialmplmfcahpaaGreatR20
set_option linter.unusedVariables false
set_option linter.unusedSimpArgs false
namespace Go.Proofs.YtialmplmfcahpaaGreat
open Go.Sx Go.RowKit
theorem Tryz.own : ownKnob Tryz.prog.godebug = none := by kernel_rfl
theorem Tryz.laidOut : laidOutB Tryz.prog = true := by kernel_rfl
theorem qaQ {P : Program} {t : TypeId} {ds : List D} (hu : P.underlying t = some (.int .i64)) (h : ShD P t ds) : ∃ n, ds = [I n] ∧ inInt .i64 n := by
 have h2 : ∃ n, ds = [.v (.int .i64 n)] ∧ (Lit.int .i64 n).wf = true := by cases h <;> simp_all
 obtain ⟨n, e, hw⟩ := h2
 refine ⟨n, e, ?_⟩
 simp [Lit.wf] at hw
 have h3 : IntKind.i64.min = -9223372036854775808 := rfl
 rw [h3] at hw
 exact hw
theorem qeB {P : Program} {t : TypeId} {ds : List D} (hu : P.underlying t = some .bool) (h : ShD P t ds) : ∃ b, ds = [B b] := by
 cases h <;> simp_all
theorem qon {P : Program} {t e : TypeId} {ds : List D} (hu : P.underlying t = some (.slice e)) (h : ShD P t ds) : ∃ es, ds = [.sl (P.cellsOf e) es] ∧ es.length ≤ maxLen ∧ ∀ x ∈ es, ShD P e x := by
 cases h <;> simp_all
theorem qbQ {P : Program} {t : TypeId} {fs : Array Field} {ds : List D} (hu : P.underlying t = some (.struct fs)) (h : ShD P t ds) : ds.length = P.cellsOf t ∧ ∀ f ∈ fs.toList, ShD P f.type ((ds.drop f.offset).take (P.cellsOf f.type)) := by
 cases h <;> simp_all
theorem qld {α : Type} (f : α → List D) (W : α → Prop) : ∀ {es : List (List D)}, (∀ ds ∈ es, ∃ a, ds = f a ∧ W a) → ∃ xs : List α, es = xs.map f ∧ ∀ a ∈ xs, W a
 | [], _ => ⟨[], rfl, by simp⟩
 | ds :: es, h => by
  obtain ⟨a, rfl, ha⟩ := h ds (by simp)
  obtain ⟨xs, rfl, hxs⟩ := qld f W (es := es) fun x hx => h x (by simp [hx])
  refine ⟨a :: xs, rfl, fun b hb => ?_⟩
  rcases List.mem_cons.1 hb with rfl | hb
  ·exact ha
  ·exact hxs b hb
theorem qch {α : Type} (f : α → List D) (W : α → Prop) {P : Program} {t e : TypeId} {k : Nat} (hu : P.underlying t = some (.slice e)) (hk : P.cellsOf e = k) (hel : ∀ ds, ShD P e ds → ∃ a, ds = f a ∧ W a) {ds : List D} (h : ShD P t ds) :
  ∃ xs : List α, ds = [.sl k (xs.map f)] ∧ (xs.length : Int) ≤ 9223372036854775807 ∧ ∀ a ∈ xs, W a := by
 obtain ⟨es, rfl, hl, he⟩ := qon hu h
 obtain ⟨xs, rfl, hxs⟩ := qld f W fun ds hds => hel ds (he ds hds)
 refine ⟨xs, by rw [hk], ?_, hxs⟩
 have hm : maxLen = 9223372036854775807 := rfl
 rw [List.length_map] at hl
 omega
theorem lst2 {α : Type} {l : List α} (h : l.length = 2) : ∃ a0 a1, l = [a0, a1] := by
 match l, h with
 | [a0, a1], _ => exact ⟨a0, a1, rfl⟩
theorem lst3 {α : Type} {l : List α} (h : l.length = 3) : ∃ a0 a1 a2, l = [a0, a1, a2] := by
 match l, h with
 | [a0, a1, a2], _ => exact ⟨a0, a1, a2, rfl⟩
theorem lst4 {α : Type} {l : List α} (h : l.length = 4) : ∃ a0 a1 a2 a3, l = [a0, a1, a2, a3] := by
 match l, h with
 | [a0, a1, a2, a3], _ => exact ⟨a0, a1, a2, a3, rfl⟩
theorem lst5 {α : Type} {l : List α} (h : l.length = 5) : ∃ a0 a1 a2 a3 a4, l = [a0, a1, a2, a3, a4] := by
 match l, h with
 | [a0, a1, a2, a3, a4], _ => exact ⟨a0, a1, a2, a3, a4, rfl⟩
theorem lst6 {α : Type} {l : List α} (h : l.length = 6) : ∃ a0 a1 a2 a3 a4 a5, l = [a0, a1, a2, a3, a4, a5] := by
 match l, h with
 | [a0, a1, a2, a3, a4, a5], _ => exact ⟨a0, a1, a2, a3, a4, a5, rfl⟩
theorem lst7 {α : Type} {l : List α} (h : l.length = 7) : ∃ a0 a1 a2 a3 a4 a5 a6, l = [a0, a1, a2, a3, a4, a5, a6] := by
 match l, h with
 | [a0, a1, a2, a3, a4, a5, a6], _ => exact ⟨a0, a1, a2, a3, a4, a5, a6, rfl⟩
theorem lst8 {α : Type} {l : List α} (h : l.length = 8) : ∃ a0 a1 a2 a3 a4 a5 a6 a7, l = [a0, a1, a2, a3, a4, a5, a6, a7] := by
 match l, h with
 | [a0, a1, a2, a3, a4, a5, a6, a7], _ => exact ⟨a0, a1, a2, a3, a4, a5, a6, a7, rfl⟩
theorem Tryz.cells3 : Tryz.prog.cellsOf 3 = 1 := by kernel_rfl
theorem Tryz.cells4 : Tryz.prog.cellsOf 4 = 1 := by kernel_rfl
theorem Tryz.cells123 : Tryz.prog.cellsOf 123 = 2 := by kernel_rfl
theorem qoo {ds : List D} (h : ShD Tryz.prog 123 ds) : ∃ x : Stamp, ds = x.e ∧ x.wf := by
 obtain ⟨hl, hf⟩ := qbQ Tryz.underlying123 h
 rw [Tryz.cells123] at hl
 obtain ⟨a0, a1, rfl⟩ := lst2 hl
 have g0 : ShD Tryz.prog 3 [a0] := by
  have := hf _ (List.mem_cons_self ..)
  rw [Tryz.cells3] at this
  exact this
 obtain ⟨v0, e0, w0⟩ := qaQ Tryz.underlying3 g0
 obtain rfl := (List.cons.inj e0).1
 have g1 : ShD Tryz.prog 3 [a1] := by
  have := hf _ (List.mem_cons_of_mem _ (List.mem_cons_self ..))
  rw [Tryz.cells3] at this
  exact this
 obtain ⟨v1, e1, w1⟩ := qaQ Tryz.underlying3 g1
 obtain rfl := (List.cons.inj e1).1
 exact ⟨⟨v0, v1⟩, rfl, ⟨w0, w1⟩⟩
theorem Tryz.cells125 : Tryz.prog.cellsOf 125 = 5 := by kernel_rfl
theorem qop {ds : List D} (h : ShD Tryz.prog 125 ds) : ∃ x : Record, ds = x.e ∧ x.wf := by
 obtain ⟨hl, hf⟩ := qbQ Tryz.underlying125 h
 rw [Tryz.cells125] at hl
 obtain ⟨a0, a1, a2, a3, a4, rfl⟩ := lst5 hl
 have g0 : ShD Tryz.prog 3 [a0] := by
  have := hf _ (List.mem_cons_self ..)
  rw [Tryz.cells3] at this
  exact this
 obtain ⟨v0, e0, w0⟩ := qaQ Tryz.underlying3 g0
 obtain rfl := (List.cons.inj e0).1
 have g1 : ShD Tryz.prog 123 [a1, a2] := by
  have := hf _ (List.mem_cons_of_mem _ (List.mem_cons_self ..))
  rw [Tryz.cells123] at this
  exact this
 obtain ⟨v1, e1, w1⟩ := qoo g1
 simp only [Stamp.e, List.cons.injEq, and_true] at e1
 obtain ⟨rfl, rfl⟩ := e1
 have g2 : ShD Tryz.prog 3 [a3] := by
  have := hf _ (List.mem_cons_of_mem _ (List.mem_cons_of_mem _ (List.mem_cons_self ..)))
  rw [Tryz.cells3] at this
  exact this
 obtain ⟨v2, e2, w2⟩ := qaQ Tryz.underlying3 g2
 obtain rfl := (List.cons.inj e2).1
 have g3 : ShD Tryz.prog 3 [a4] := by
  have := hf _ (List.mem_cons_of_mem _ (List.mem_cons_of_mem _ (List.mem_cons_of_mem _ (List.mem_cons_self ..))))
  rw [Tryz.cells3] at this
  exact this
 obtain ⟨v3, e3, w3⟩ := qaQ Tryz.underlying3 g3
 obtain rfl := (List.cons.inj e3).1
 exact ⟨⟨v0, v1, v2, v3⟩, rfl, ⟨w0, w1, w2, w3⟩⟩
theorem Tryz.cells271 : Tryz.prog.cellsOf 271 = 4 := by kernel_rfl
theorem qoq {ds : List D} (h : ShD Tryz.prog 271 ds) : ∃ x : Cell, ds = x.e ∧ x.wf := by
 obtain ⟨hl, hf⟩ := qbQ Tryz.underlying271 h
 rw [Tryz.cells271] at hl
 obtain ⟨a0, a1, a2, a3, rfl⟩ := lst4 hl
 have g0 : ShD Tryz.prog 3 [a0] := by
  have := hf _ (List.mem_cons_self ..)
  rw [Tryz.cells3] at this
  exact this
 obtain ⟨v0, e0, w0⟩ := qaQ Tryz.underlying3 g0
 obtain rfl := (List.cons.inj e0).1
 have g1 : ShD Tryz.prog 3 [a1] := by
  have := hf _ (List.mem_cons_of_mem _ (List.mem_cons_self ..))
  rw [Tryz.cells3] at this
  exact this
 obtain ⟨v1, e1, w1⟩ := qaQ Tryz.underlying3 g1
 obtain rfl := (List.cons.inj e1).1
 have g2 : ShD Tryz.prog 3 [a2] := by
  have := hf _ (List.mem_cons_of_mem _ (List.mem_cons_of_mem _ (List.mem_cons_self ..)))
  rw [Tryz.cells3] at this
  exact this
 obtain ⟨v2, e2, w2⟩ := qaQ Tryz.underlying3 g2
 obtain rfl := (List.cons.inj e2).1
 have g3 : ShD Tryz.prog 3 [a3] := by
  have := hf _ (List.mem_cons_of_mem _ (List.mem_cons_of_mem _ (List.mem_cons_of_mem _ (List.mem_cons_self ..))))
  rw [Tryz.cells3] at this
  exact this
 obtain ⟨v3, e3, w3⟩ := qaQ Tryz.underlying3 g3
 obtain rfl := (List.cons.inj e3).1
 exact ⟨⟨v0, v1, v2, v3⟩, rfl, ⟨w0, w1, w2, w3⟩⟩
theorem Tryz.cells273 : Tryz.prog.cellsOf 273 = 2 := by kernel_rfl
theorem qor {ds : List D} (h : ShD Tryz.prog 273 ds) : ∃ x : Done, ds = x.e ∧ x.wf := by
 obtain ⟨hl, hf⟩ := qbQ Tryz.underlying273 h
 rw [Tryz.cells273] at hl
 obtain ⟨a0, a1, rfl⟩ := lst2 hl
 have g0 : ShD Tryz.prog 3 [a0] := by
  have := hf _ (List.mem_cons_self ..)
  rw [Tryz.cells3] at this
  exact this
 obtain ⟨v0, e0, w0⟩ := qaQ Tryz.underlying3 g0
 obtain rfl := (List.cons.inj e0).1
 have g1 : ShD Tryz.prog 4 [a1] := by
  have := hf _ (List.mem_cons_of_mem _ (List.mem_cons_self ..))
  rw [Tryz.cells4] at this
  exact this
 obtain ⟨v1, e1⟩ := qeB Tryz.underlying4 g1
 obtain rfl := (List.cons.inj e1).1
 exact ⟨⟨v0, v1⟩, rfl, ⟨w0⟩⟩
theorem Tryz.cells183 : Tryz.prog.cellsOf 183 = 5 := by kernel_rfl
theorem qos {ds : List D} (h : ShD Tryz.prog 183 ds) : ∃ x : Token, ds = x.e ∧ x.wf := by
 obtain ⟨hl, hf⟩ := qbQ Tryz.underlying183 h
 rw [Tryz.cells183] at hl
 obtain ⟨a0, a1, a2, a3, a4, rfl⟩ := lst5 hl
 have g0 : ShD Tryz.prog 4 [a0] := by
  have := hf _ (List.mem_cons_self ..)
  rw [Tryz.cells4] at this
  exact this
 obtain ⟨v0, e0⟩ := qeB Tryz.underlying4 g0
 obtain rfl := (List.cons.inj e0).1
 have g1 : ShD Tryz.prog 3 [a1] := by
  have := hf _ (List.mem_cons_of_mem _ (List.mem_cons_self ..))
  rw [Tryz.cells3] at this
  exact this
 obtain ⟨v1, e1, w1⟩ := qaQ Tryz.underlying3 g1
 obtain rfl := (List.cons.inj e1).1
 have g2 : ShD Tryz.prog 3 [a2] := by
  have := hf _ (List.mem_cons_of_mem _ (List.mem_cons_of_mem _ (List.mem_cons_self ..)))
  rw [Tryz.cells3] at this
  exact this
 obtain ⟨v2, e2, w2⟩ := qaQ Tryz.underlying3 g2
 obtain rfl := (List.cons.inj e2).1
 have g3 : ShD Tryz.prog 4 [a3] := by
  have := hf _ (List.mem_cons_of_mem _ (List.mem_cons_of_mem _ (List.mem_cons_of_mem _ (List.mem_cons_self ..))))
  rw [Tryz.cells4] at this
  exact this
 obtain ⟨v3, e3⟩ := qeB Tryz.underlying4 g3
 obtain rfl := (List.cons.inj e3).1
 have g4 : ShD Tryz.prog 4 [a4] := by
  have := hf _ (List.mem_cons_of_mem _ (List.mem_cons_of_mem _ (List.mem_cons_of_mem _ (List.mem_cons_of_mem _ (List.mem_cons_self ..)))))
  rw [Tryz.cells4] at this
  exact this
 obtain ⟨v4, e4⟩ := qeB Tryz.underlying4 g4
 obtain rfl := (List.cons.inj e4).1
 exact ⟨⟨v0, v1, v2, v3, v4⟩, rfl, ⟨w1, w2⟩⟩
theorem Tryz.cells185 : Tryz.prog.cellsOf 185 = 3 := by kernel_rfl
theorem qot {ds : List D} (h : ShD Tryz.prog 185 ds) : ∃ x : News, ds = x.e ∧ x.wf := by
 obtain ⟨hl, hf⟩ := qbQ Tryz.underlying185 h
 rw [Tryz.cells185] at hl
 obtain ⟨a0, a1, a2, rfl⟩ := lst3 hl
 have g0 : ShD Tryz.prog 3 [a0] := by
  have := hf _ (List.mem_cons_self ..)
  rw [Tryz.cells3] at this
  exact this
 obtain ⟨v0, e0, w0⟩ := qaQ Tryz.underlying3 g0
 obtain rfl := (List.cons.inj e0).1
 have g1 : ShD Tryz.prog 3 [a1] := by
  have := hf _ (List.mem_cons_of_mem _ (List.mem_cons_self ..))
  rw [Tryz.cells3] at this
  exact this
 obtain ⟨v1, e1, w1⟩ := qaQ Tryz.underlying3 g1
 obtain rfl := (List.cons.inj e1).1
 have g2 : ShD Tryz.prog 4 [a2] := by
  have := hf _ (List.mem_cons_of_mem _ (List.mem_cons_of_mem _ (List.mem_cons_self ..)))
  rw [Tryz.cells4] at this
  exact this
 obtain ⟨v2, e2⟩ := qeB Tryz.underlying4 g2
 obtain rfl := (List.cons.inj e2).1
 exact ⟨⟨v0, v1, v2⟩, rfl, ⟨w0, w1⟩⟩
theorem Tryz.cells32 : Tryz.prog.cellsOf 32 = 3 := by kernel_rfl
theorem qou {ds : List D} (h : ShD Tryz.prog 32 ds) : ∃ x : Pick, ds = x.e ∧ x.wf := by
 obtain ⟨hl, hf⟩ := qbQ Tryz.underlying32 h
 rw [Tryz.cells32] at hl
 obtain ⟨a0, a1, a2, rfl⟩ := lst3 hl
 have g0 : ShD Tryz.prog 3 [a0] := by
  have := hf _ (List.mem_cons_self ..)
  rw [Tryz.cells3] at this
  exact this
 obtain ⟨v0, e0, w0⟩ := qaQ Tryz.underlying3 g0
 obtain rfl := (List.cons.inj e0).1
 have g1 : ShD Tryz.prog 3 [a1] := by
  have := hf _ (List.mem_cons_of_mem _ (List.mem_cons_self ..))
  rw [Tryz.cells3] at this
  exact this
 obtain ⟨v1, e1, w1⟩ := qaQ Tryz.underlying3 g1
 obtain rfl := (List.cons.inj e1).1
 have g2 : ShD Tryz.prog 3 [a2] := by
  have := hf _ (List.mem_cons_of_mem _ (List.mem_cons_of_mem _ (List.mem_cons_self ..)))
  rw [Tryz.cells3] at this
  exact this
 obtain ⟨v2, e2, w2⟩ := qaQ Tryz.underlying3 g2
 obtain rfl := (List.cons.inj e2).1
 exact ⟨⟨v0, v1, v2⟩, rfl, ⟨w0, w1, w2⟩⟩
theorem qle {ad : AD} (h : ShA Tryz.prog 32 ad) : ∃ x : Pick, ad = .agg x.e ∧ x.wf := by
 cases ad with
 | one d => have := h.2; simp [aggT, Tryz.underlying32] at this
 | agg ds =>
  obtain ⟨x, rfl, hx⟩ := qou h.1
  exact ⟨x, rfl, hx⟩
theorem qlf {ds : List D} (h : ShD Tryz.prog 95 ds) : ∃ xs : List Int, ds = [.sl 1 (xs.map eI)] ∧ (xs.length : Int) ≤ 9223372036854775807 ∧ ∀ a ∈ xs, (fun n => inInt .i64 n) a :=
 qch eI (fun n => inInt .i64 n) Tryz.underlying95 Tryz.cells3 (fun ds h => qaQ Tryz.underlying3 h) h
theorem Tryz.cells95 : Tryz.prog.cellsOf 95 = 1 := by kernel_rfl
theorem Tryz.cells236 : Tryz.prog.cellsOf 236 = 4 := by kernel_rfl
theorem qov {ds : List D} (h : ShD Tryz.prog 236 ds) : ∃ x : Node, ds = x.e ∧ x.wf := by
 obtain ⟨hl, hf⟩ := qbQ Tryz.underlying236 h
 rw [Tryz.cells236] at hl
 obtain ⟨a0, a1, a2, a3, rfl⟩ := lst4 hl
 have g0 : ShD Tryz.prog 3 [a0] := by
  have := hf _ (List.mem_cons_self ..)
  rw [Tryz.cells3] at this
  exact this
 obtain ⟨v0, e0, w0⟩ := qaQ Tryz.underlying3 g0
 obtain rfl := (List.cons.inj e0).1
 have g1 : ShD Tryz.prog 3 [a1] := by
  have := hf _ (List.mem_cons_of_mem _ (List.mem_cons_self ..))
  rw [Tryz.cells3] at this
  exact this
 obtain ⟨v1, e1, w1⟩ := qaQ Tryz.underlying3 g1
 obtain rfl := (List.cons.inj e1).1
 have g2 : ShD Tryz.prog 3 [a2] := by
  have := hf _ (List.mem_cons_of_mem _ (List.mem_cons_of_mem _ (List.mem_cons_self ..)))
  rw [Tryz.cells3] at this
  exact this
 obtain ⟨v2, e2, w2⟩ := qaQ Tryz.underlying3 g2
 obtain rfl := (List.cons.inj e2).1
 have g3 : ShD Tryz.prog 95 [a3] := by
  have := hf _ (List.mem_cons_of_mem _ (List.mem_cons_of_mem _ (List.mem_cons_of_mem _ (List.mem_cons_self ..))))
  rw [Tryz.cells95] at this
  exact this
 obtain ⟨v3, e3, w3⟩ := qlf g3
 obtain rfl := (List.cons.inj e3).1
 exact ⟨⟨v0, v1, v2, v3⟩, rfl, ⟨w0, w1, w2, w3⟩⟩
theorem qfe {ds : List D} (h : ShD Tryz.prog 57 ds) : ∃ xs : List Record, ds = [.sl 5 (xs.map Record.e)] ∧ (xs.length : Int) ≤ 9223372036854775807 ∧ ∀ a ∈ xs, (Record.wf) a :=
 qch Record.e (Record.wf) Tryz.underlying57 Tryz.cells125 (fun ds h => qop h) h
theorem Tryz.cells57 : Tryz.prog.cellsOf 57 = 1 := by kernel_rfl
theorem Tryz.cells161 : Tryz.prog.cellsOf 161 = 6 := by kernel_rfl
theorem qow {ds : List D} (h : ShD Tryz.prog 161 ds) : ∃ x : Link, ds = x.e ∧ x.wf := by
 obtain ⟨hl, hf⟩ := qbQ Tryz.underlying161 h
 rw [Tryz.cells161] at hl
 obtain ⟨a0, a1, a2, a3, a4, a5, rfl⟩ := lst6 hl
 have g0 : ShD Tryz.prog 3 [a0] := by
  have := hf _ (List.mem_cons_self ..)
  rw [Tryz.cells3] at this
  exact this
 obtain ⟨v0, e0, w0⟩ := qaQ Tryz.underlying3 g0
 obtain rfl := (List.cons.inj e0).1
 have g1 : ShD Tryz.prog 57 [a1] := by
  have := hf _ (List.mem_cons_of_mem _ (List.mem_cons_self ..))
  rw [Tryz.cells57] at this
  exact this
 obtain ⟨v1, e1, w1⟩ := qfe g1
 obtain rfl := (List.cons.inj e1).1
 have g2 : ShD Tryz.prog 3 [a2] := by
  have := hf _ (List.mem_cons_of_mem _ (List.mem_cons_of_mem _ (List.mem_cons_self ..)))
  rw [Tryz.cells3] at this
  exact this
 obtain ⟨v2, e2, w2⟩ := qaQ Tryz.underlying3 g2
 obtain rfl := (List.cons.inj e2).1
 have g3 : ShD Tryz.prog 3 [a3] := by
  have := hf _ (List.mem_cons_of_mem _ (List.mem_cons_of_mem _ (List.mem_cons_of_mem _ (List.mem_cons_self ..))))
  rw [Tryz.cells3] at this
  exact this
 obtain ⟨v3, e3, w3⟩ := qaQ Tryz.underlying3 g3
 obtain rfl := (List.cons.inj e3).1
 have g4 : ShD Tryz.prog 3 [a4] := by
  have := hf _ (List.mem_cons_of_mem _ (List.mem_cons_of_mem _ (List.mem_cons_of_mem _ (List.mem_cons_of_mem _ (List.mem_cons_self ..)))))
  rw [Tryz.cells3] at this
  exact this
 obtain ⟨v4, e4, w4⟩ := qaQ Tryz.underlying3 g4
 obtain rfl := (List.cons.inj e4).1
 have g5 : ShD Tryz.prog 3 [a5] := by
  have := hf _ (List.mem_cons_of_mem _ (List.mem_cons_of_mem _ (List.mem_cons_of_mem _ (List.mem_cons_of_mem _ (List.mem_cons_of_mem _ (List.mem_cons_self ..))))))
  rw [Tryz.cells3] at this
  exact this
 obtain ⟨v5, e5, w5⟩ := qaQ Tryz.underlying3 g5
 obtain rfl := (List.cons.inj e5).1
 exact ⟨⟨v0, v1, v2, v3, v4, v5⟩, rfl, ⟨w0, w1, w2, w3, w4, w5⟩⟩
theorem qox {ds : List D} (h : ShD Tryz.prog 22 ds) : ∃ xs : List Node, ds = [.sl 4 (xs.map Node.e)] ∧ (xs.length : Int) ≤ 9223372036854775807 ∧ ∀ a ∈ xs, (Node.wf) a :=
 qch Node.e (Node.wf) Tryz.underlying22 Tryz.cells236 (fun ds h => qov h) h
theorem Tryz.cells22 : Tryz.prog.cellsOf 22 = 1 := by kernel_rfl
theorem Tryz.cells24 : Tryz.prog.cellsOf 24 = 3 := by kernel_rfl
theorem qoy {ds : List D} (h : ShD Tryz.prog 24 ds) : ∃ x : Graph, ds = x.e ∧ x.wf := by
 obtain ⟨hl, hf⟩ := qbQ Tryz.underlying24 h
 rw [Tryz.cells24] at hl
 obtain ⟨a0, a1, a2, rfl⟩ := lst3 hl
 have g0 : ShD Tryz.prog 22 [a0] := by
  have := hf _ (List.mem_cons_self ..)
  rw [Tryz.cells22] at this
  exact this
 obtain ⟨v0, e0, w0⟩ := qox g0
 obtain rfl := (List.cons.inj e0).1
 have g1 : ShD Tryz.prog 3 [a1] := by
  have := hf _ (List.mem_cons_of_mem _ (List.mem_cons_self ..))
  rw [Tryz.cells3] at this
  exact this
 obtain ⟨v1, e1, w1⟩ := qaQ Tryz.underlying3 g1
 obtain rfl := (List.cons.inj e1).1
 have g2 : ShD Tryz.prog 3 [a2] := by
  have := hf _ (List.mem_cons_of_mem _ (List.mem_cons_of_mem _ (List.mem_cons_self ..)))
  rw [Tryz.cells3] at this
  exact this
 obtain ⟨v2, e2, w2⟩ := qaQ Tryz.underlying3 g2
 obtain rfl := (List.cons.inj e2).1
 exact ⟨⟨v0, v1, v2⟩, rfl, ⟨w0, w1, w2⟩⟩
theorem qoz {ds : List D} (h : ShD Tryz.prog 155 ds) : ∃ xs : List Cell, ds = [.sl 4 (xs.map Cell.e)] ∧ (xs.length : Int) ≤ 9223372036854775807 ∧ ∀ a ∈ xs, (Cell.wf) a :=
 qch Cell.e (Cell.wf) Tryz.underlying155 Tryz.cells271 (fun ds h => qoq h) h
theorem Tryz.cells155 : Tryz.prog.cellsOf 155 = 1 := by kernel_rfl
theorem qlg {ds : List D} (h : ShD Tryz.prog 68 ds) : ∃ xs : List Bool, ds = [.sl 1 (xs.map eB)] ∧ (xs.length : Int) ≤ 9223372036854775807 ∧ ∀ a ∈ xs, (fun _ => True) a :=
 qch eB (fun _ => True) Tryz.underlying68 Tryz.cells4 (fun ds h => (qeB Tryz.underlying4 h).imp fun _ h => ⟨h, trivial⟩) h
theorem Tryz.cells68 : Tryz.prog.cellsOf 68 = 1 := by kernel_rfl
theorem qoA {ds : List D} (h : ShD Tryz.prog 156 ds) : ∃ xs : List Done, ds = [.sl 2 (xs.map Done.e)] ∧ (xs.length : Int) ≤ 9223372036854775807 ∧ ∀ a ∈ xs, (Done.wf) a :=
 qch Done.e (Done.wf) Tryz.underlying156 Tryz.cells273 (fun ds h => qor h) h
theorem Tryz.cells156 : Tryz.prog.cellsOf 156 = 1 := by kernel_rfl
theorem Tryz.cells158 : Tryz.prog.cellsOf 158 = 8 := by kernel_rfl
theorem qoB {ds : List D} (h : ShD Tryz.prog 158 ds) : ∃ x : Worker, ds = x.e ∧ x.wf := by
 obtain ⟨hl, hf⟩ := qbQ Tryz.underlying158 h
 rw [Tryz.cells158] at hl
 obtain ⟨a0, a1, a2, a3, a4, a5, a6, a7, rfl⟩ := lst8 hl
 have g0 : ShD Tryz.prog 57 [a0] := by
  have := hf _ (List.mem_cons_self ..)
  rw [Tryz.cells57] at this
  exact this
 obtain ⟨v0, e0, w0⟩ := qfe g0
 obtain rfl := (List.cons.inj e0).1
 have g1 : ShD Tryz.prog 57 [a1] := by
  have := hf _ (List.mem_cons_of_mem _ (List.mem_cons_self ..))
  rw [Tryz.cells57] at this
  exact this
 obtain ⟨v1, e1, w1⟩ := qfe g1
 obtain rfl := (List.cons.inj e1).1
 have g2 : ShD Tryz.prog 57 [a2] := by
  have := hf _ (List.mem_cons_of_mem _ (List.mem_cons_of_mem _ (List.mem_cons_self ..)))
  rw [Tryz.cells57] at this
  exact this
 obtain ⟨v2, e2, w2⟩ := qfe g2
 obtain rfl := (List.cons.inj e2).1
 have g3 : ShD Tryz.prog 155 [a3] := by
  have := hf _ (List.mem_cons_of_mem _ (List.mem_cons_of_mem _ (List.mem_cons_of_mem _ (List.mem_cons_self ..))))
  rw [Tryz.cells155] at this
  exact this
 obtain ⟨v3, e3, w3⟩ := qoz g3
 obtain rfl := (List.cons.inj e3).1
 have g4 : ShD Tryz.prog 95 [a4] := by
  have := hf _ (List.mem_cons_of_mem _ (List.mem_cons_of_mem _ (List.mem_cons_of_mem _ (List.mem_cons_of_mem _ (List.mem_cons_self ..)))))
  rw [Tryz.cells95] at this
  exact this
 obtain ⟨v4, e4, w4⟩ := qlf g4
 obtain rfl := (List.cons.inj e4).1
 have g5 : ShD Tryz.prog 68 [a5] := by
  have := hf _ (List.mem_cons_of_mem _ (List.mem_cons_of_mem _ (List.mem_cons_of_mem _ (List.mem_cons_of_mem _ (List.mem_cons_of_mem _ (List.mem_cons_self ..))))))
  rw [Tryz.cells68] at this
  exact this
 obtain ⟨v5, e5, w5⟩ := qlg g5
 obtain rfl := (List.cons.inj e5).1
 have g6 : ShD Tryz.prog 68 [a6] := by
  have := hf _ (List.mem_cons_of_mem _ (List.mem_cons_of_mem _ (List.mem_cons_of_mem _ (List.mem_cons_of_mem _ (List.mem_cons_of_mem _ (List.mem_cons_of_mem _ (List.mem_cons_self ..)))))))
  rw [Tryz.cells68] at this
  exact this
 obtain ⟨v6, e6, w6⟩ := qlg g6
 obtain rfl := (List.cons.inj e6).1
 have g7 : ShD Tryz.prog 156 [a7] := by
  have := hf _ (List.mem_cons_of_mem _ (List.mem_cons_of_mem _ (List.mem_cons_of_mem _ (List.mem_cons_of_mem _ (List.mem_cons_of_mem _ (List.mem_cons_of_mem _ (List.mem_cons_of_mem _ (List.mem_cons_self ..))))))))
  rw [Tryz.cells156] at this
  exact this
 obtain ⟨v7, e7, w7⟩ := qoA g7
 obtain rfl := (List.cons.inj e7).1
 exact ⟨⟨v0, v1, v2, v3, v4, v5, v6, v7⟩, rfl, ⟨w0, w1, w2, w3, w4, w5.1, w6.1, w7⟩⟩
theorem qoC {ds : List D} (h : ShD Tryz.prog 25 ds) : ∃ xs : List Worker, ds = [.sl 8 (xs.map Worker.e)] ∧ (xs.length : Int) ≤ 9223372036854775807 ∧ ∀ a ∈ xs, (Worker.wf) a :=
 qch Worker.e (Worker.wf) Tryz.underlying25 Tryz.cells158 (fun ds h => qoB h) h
theorem Tryz.cells25 : Tryz.prog.cellsOf 25 = 1 := by kernel_rfl
theorem qoD {ds : List D} (h : ShD Tryz.prog 26 ds) : ∃ xs : List Link, ds = [.sl 6 (xs.map Link.e)] ∧ (xs.length : Int) ≤ 9223372036854775807 ∧ ∀ a ∈ xs, (Link.wf) a :=
 qch Link.e (Link.wf) Tryz.underlying26 Tryz.cells161 (fun ds h => qow h) h
theorem Tryz.cells26 : Tryz.prog.cellsOf 26 = 1 := by kernel_rfl
theorem qoE {ds : List D} (h : ShD Tryz.prog 27 ds) : ∃ xs : List Token, ds = [.sl 5 (xs.map Token.e)] ∧ (xs.length : Int) ≤ 9223372036854775807 ∧ ∀ a ∈ xs, (Token.wf) a :=
 qch Token.e (Token.wf) Tryz.underlying27 Tryz.cells183 (fun ds h => qos h) h
theorem Tryz.cells27 : Tryz.prog.cellsOf 27 = 1 := by kernel_rfl
theorem qoF {ds : List D} (h : ShD Tryz.prog 28 ds) : ∃ xs : List News, ds = [.sl 3 (xs.map News.e)] ∧ (xs.length : Int) ≤ 9223372036854775807 ∧ ∀ a ∈ xs, (News.wf) a :=
 qch News.e (News.wf) Tryz.underlying28 Tryz.cells185 (fun ds h => qot h) h
theorem Tryz.cells28 : Tryz.prog.cellsOf 28 = 1 := by kernel_rfl
theorem Tryz.cells30 : Tryz.prog.cellsOf 30 = 7 := by kernel_rfl
theorem qoG {ds : List D} (h : ShD Tryz.prog 30 ds) : ∃ x : Cluster, ds = x.e ∧ x.wf := by
 obtain ⟨hl, hf⟩ := qbQ Tryz.underlying30 h
 rw [Tryz.cells30] at hl
 obtain ⟨a0, a1, a2, a3, a4, a5, a6, rfl⟩ := lst7 hl
 have g0 : ShD Tryz.prog 24 [a0, a1, a2] := by
  have := hf _ (List.mem_cons_self ..)
  rw [Tryz.cells24] at this
  exact this
 obtain ⟨v0, e0, w0⟩ := qoy g0
 simp only [Graph.e, List.cons.injEq, and_true] at e0
 obtain ⟨rfl, rfl, rfl⟩ := e0
 have g1 : ShD Tryz.prog 25 [a3] := by
  have := hf _ (List.mem_cons_of_mem _ (List.mem_cons_self ..))
  rw [Tryz.cells25] at this
  exact this
 obtain ⟨v1, e1, w1⟩ := qoC g1
 obtain rfl := (List.cons.inj e1).1
 have g2 : ShD Tryz.prog 26 [a4] := by
  have := hf _ (List.mem_cons_of_mem _ (List.mem_cons_of_mem _ (List.mem_cons_self ..)))
  rw [Tryz.cells26] at this
  exact this
 obtain ⟨v2, e2, w2⟩ := qoD g2
 obtain rfl := (List.cons.inj e2).1
 have g3 : ShD Tryz.prog 27 [a5] := by
  have := hf _ (List.mem_cons_of_mem _ (List.mem_cons_of_mem _ (List.mem_cons_of_mem _ (List.mem_cons_self ..))))
  rw [Tryz.cells27] at this
  exact this
 obtain ⟨v3, e3, w3⟩ := qoE g3
 obtain rfl := (List.cons.inj e3).1
 have g4 : ShD Tryz.prog 28 [a6] := by
  have := hf _ (List.mem_cons_of_mem _ (List.mem_cons_of_mem _ (List.mem_cons_of_mem _ (List.mem_cons_of_mem _ (List.mem_cons_self ..)))))
  rw [Tryz.cells28] at this
  exact this
 obtain ⟨v4, e4, w4⟩ := qoF g4
 obtain rfl := (List.cons.inj e4).1
 exact ⟨⟨v0, v1, v2, v3, v4⟩, rfl, ⟨w0, w1, w2, w3, w4⟩⟩
theorem qf5 {ad : AD} (h : ShA Tryz.prog 30 ad) : ∃ x : Cluster, ad = .agg x.e ∧ x.wf := by
 cases ad with
 | one d => have := h.2; simp [aggT, Tryz.underlying30] at this
 | agg ds =>
  obtain ⟨x, rfl, hx⟩ := qoG h.1
  exact ⟨x, rfl, hx⟩
end Go.Proofs.YtialmplmfcahpaaGreat
