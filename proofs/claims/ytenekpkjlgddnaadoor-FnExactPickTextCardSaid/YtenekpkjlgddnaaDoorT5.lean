/- From a reading of an argument to a structure (printed by gentypes.py) -/
import Derived.Test.YtenekpkjlgddnaaDoorB0
import Derived.Test.YtenekpkjlgddnaaDoorR15
import Derived.JoinedOf
set_option linter.unusedVariables false
set_option linter.unusedSimpArgs false
namespace Go.Proofs.YtenekpkjlgddnaaDoor
open Go.Sx Go.RowKit

theorem Tryd.own : ownKnob Tryd.prog.godebug = none := by kernel_rfl
theorem Tryd.laidOut : laidOutB Tryd.prog = true := by kernel_rfl

theorem int_of {P : Program} {t : TypeId} {ds : List D} (hu : P.underlying t = some (.int .i64)) (h : ShD P t ds) : ∃ n, ds = [I n] ∧ inInt .i64 n := by
  have h2 : ∃ n, ds = [.v (.int .i64 n)] ∧ (Lit.int .i64 n).wf = true := by cases h <;> simp_all
  obtain ⟨n, e, hw⟩ := h2
  refine ⟨n, e, ?_⟩
  simp [Lit.wf] at hw
  have h3 : IntKind.i64.min = -9223372036854775808 := rfl
  rw [h3] at hw
  exact hw

theorem struct_of {P : Program} {t : TypeId} {fs : Array Field} {ds : List D} (hu : P.underlying t = some (.struct fs)) (h : ShD P t ds) : ds.length = P.cellsOf t ∧ ∀ f ∈ fs.toList, ShD P f.type ((ds.drop f.offset).take (P.cellsOf f.type)) := by
  cases h <;> simp_all

theorem lst1 {α : Type} {l : List α} (h : l.length = 1) : ∃ a0, l = [a0] := by
  match l, h with
  | [a0], _ => exact ⟨a0, rfl⟩
theorem lst3 {α : Type} {l : List α} (h : l.length = 3) : ∃ a0 a1 a2, l = [a0, a1, a2] := by
  match l, h with
  | [a0, a1, a2], _ => exact ⟨a0, a1, a2, rfl⟩
theorem Tryd.cells3 : Tryd.prog.cellsOf 3 = 1 := by kernel_rfl
theorem Tryd.cells23 : Tryd.prog.cellsOf 23 = 3 := by kernel_rfl

theorem Pick_of {ds : List D} (h : ShD Tryd.prog 23 ds) : ∃ x : Pick, ds = x.e ∧ x.wf := by
  obtain ⟨hl, hf⟩ := struct_of Tryd.underlying23 h
  rw [Tryd.cells23] at hl
  obtain ⟨a0, a1, a2, rfl⟩ := lst3 hl
  have g0 : ShD Tryd.prog 3 [a0] := by
    have := hf _ (List.mem_cons_self ..)
    rw [Tryd.cells3] at this
    exact this
  obtain ⟨v0, e0, w0⟩ := int_of Tryd.underlying3 g0
  obtain rfl := (List.cons.inj e0).1
  have g1 : ShD Tryd.prog 3 [a1] := by
    have := hf _ (List.mem_cons_of_mem _ (List.mem_cons_self ..))
    rw [Tryd.cells3] at this
    exact this
  obtain ⟨v1, e1, w1⟩ := int_of Tryd.underlying3 g1
  obtain rfl := (List.cons.inj e1).1
  have g2 : ShD Tryd.prog 3 [a2] := by
    have := hf _ (List.mem_cons_of_mem _ (List.mem_cons_of_mem _ (List.mem_cons_self ..)))
    rw [Tryd.cells3] at this
    exact this
  obtain ⟨v2, e2, w2⟩ := int_of Tryd.underlying3 g2
  obtain rfl := (List.cons.inj e2).1
  exact ⟨⟨v0, v1, v2⟩, rfl, ⟨w0, w1, w2⟩⟩

theorem Pick_arg {ad : AD} (h : ShA Tryd.prog 23 ad) : ∃ x : Pick, ad = .agg x.e ∧ x.wf := by
  cases ad with
  | one d => have := h.2; simp [aggT, Tryd.underlying23] at this
  | agg ds =>
    obtain ⟨x, rfl, hx⟩ := Pick_of h.1
    exact ⟨x, rfl, hx⟩

end Go.Proofs.YtenekpkjlgddnaaDoor

namespace Go.Proofs.YtenekpkjlgddnaaDoor
open Go.ChangeShapes Go.WideShapes Go.ChangeAt Go.RowKit Go.Joins Go.Sx

theorem both {a b : Bool} (h : a = true) (k : b = true) : (a && b) = true := by rw [h, k]; rfl

theorem joinedFacts_of {P : Program} {f : FuncId} {fn : Func} {s : ChangeSpec} {c : OpenClaim}
    (g1 : c.wf (OpenSpec.ofChange s) = true) (g2 : laidOutB P = true) (g3 : mapsRowed P = true)
    (g4 : (fn.params.all (P.readableRec ·) && namedTie P c.named s.vars && (c.stops == []) && (P.stops == []) && (c.knobs == []) && (P.stopKnobs == [])) = true)
    (g5 : (c.inPlace == P.inPlace f) = true) (g6 : (c.unfollowed == P.unfollowed f) = true) (g7 : (c.recurses == P.recurses f) = true) (g8 : (c.named == P.varsNamed f) = true)
    (g9 : ((c.maps == (fn.params.toList ++ s.plain.varTypes P).any (P.mapsRec ·)) && (c.ifaces == (fn.params.toList ++ s.plain.varTypes P).any (P.ifacesRec ·)) && (c.mapsOut == P.mapsAmong fn.resultTypes.toList)) = true)
    (g10 : ((c.loops == (fn.params.toList ++ s.plain.varTypes P).any (P.loopsFrom ·)) && (c.wideKeys == (fn.params.toList ++ s.plain.varTypes P ++ fn.resultTypes.toList).any (P.wideKeysFrom ·))) = true)
    (g11 : (s.vars.all (P.varReadable ·) && fn.resultTypes.all (fun t => P.readableRec t && decide (t < P.types.size)) && (c.ifacesOut == fn.resultTypes.toList.any (P.ifacesRec ·)) && (c.loopsOut == fn.resultTypes.toList.any (P.loopsFrom ·))) = true)
    (g12 : (c.plainKeys == P.plainKeys) = true) (g13 : (c.shortTexts.isNone && P.stopsHeard) = true)
    (g14 : P.mayEnter = true) (g15 : (c.lifted == P.liftsFinal) = true) (g16 : (P.make == some c.make) = true)
    (g17 : ((c.kinds == (if c.domain.isEmpty then [] else fn.params.toList.map fun t => match P.underlying t with | some (.int k) => some k | _ => none)) && (c.pinned == c.pinnedBy)) = true)
    (g18 : ((c.veiled == (fn.params.toList ++ s.plain.varTypes P ++ fn.resultTypes.toList).any (P.veiledRec ·)) && c.veiledFits P fn.params.toList (fn.params.toList ++ s.plain.varTypes P ++ fn.resultTypes.toList)) = true) :
    joinedFacts P f fn s c = true := by
  rw [Bool.and_eq_true, Bool.and_eq_true, Bool.and_eq_true, Bool.and_eq_true, Bool.and_eq_true] at g4
  rw [Bool.and_eq_true, Bool.and_eq_true] at g9
  rw [Bool.and_eq_true] at g10 g13 g17 g18
  rw [Bool.and_eq_true, Bool.and_eq_true, Bool.and_eq_true] at g11
  exact (both (both (both (both (both (both (both (both (both (both (both (both (both (both (both (both (both (both (both (both (both (both (both (both (both (both (both (both (both (both (both g1 g2) g3) g4.1.1.1.1.1) g4.1.1.1.1.2) g4.1.1.1.2) g4.1.1.2) g4.1.2) g4.2) g5) g6) g7) g8) g9.1.1) g9.1.2) g9.2) g10.1) g10.2) g11.1.1.1) g11.1.1.2) g11.1.2) g11.2) g12) g13.1) g13.2) g14) g15) g16) g17.1) g17.2) g18.1) g18.2)

theorem mapsRowed_P : mapsRowed Tryd.prog = true := by kernel_rfl
theorem plainKeys_P : Tryd.prog.plainKeys = true := by kernel_rfl
theorem mayEnter_P : Tryd.prog.mayEnter = true := by kernel_rfl
theorem liftsFinal_P : Tryd.prog.liftsFinal = false := by kernel_rfl
theorem make_P : Tryd.prog.make = some .cut := by kernel_rfl

end Go.Proofs.YtenekpkjlgddnaaDoor
