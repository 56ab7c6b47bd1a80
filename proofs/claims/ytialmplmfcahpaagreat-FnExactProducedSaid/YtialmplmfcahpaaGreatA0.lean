/- What a row must fit with, fact by fact. -/
import Derived.Test.YtialmplmfcahpaaGreatT5
import Derived.JoinedOf
set_option linter.unusedVariables false
set_option linter.unusedSimpArgs false
namespace Go.Proofs.YtialmplmfcahpaaGreat
open Go.ChangeShapes Go.WideShapes Go.ChangeAt Go.RowKit Go.Joins Go.Sx
theorem both {a b : Bool} (h : a = true) (k : b = true) : (a && b) = true := by rw [h, k]; rfl
theorem qim {P : Program} {f : FuncId} {fn : Func} {s : ChangeSpec} {c : OpenClaim}
    (g1 : c.wf (OpenSpec.ofChange s) = true) (g2 : laidOutB P = true) (g3 : mapsRowed P = true)
    (g4 : (fn.params.all (P.readableRec ·) && namedTie P c.named s.vars && (c.stops == []) && (P.stops == []) && (c.knobs == []) && (P.stopKnobs == [])) = true)
    (g5 : (c.inPlace == P.inPlace f) = true) (g6 : (c.unfollowed == P.unfollowed f) = true) (g7 : (c.recurses == P.recurses f) = true) (g8 : (c.named == P.varsNamed f) = true)
    (g9 : ((c.maps == (fn.params.toList ++ s.plain.varTypes P).any (P.mapsRec ·)) && (c.ifaces == (fn.params.toList ++ s.plain.varTypes P).any (P.ifacesRec ·)) && (c.mapsOut == P.mapsAmong fn.resultTypes.toList)) = true)
    (g10 : ((c.loops == (fn.params.toList ++ s.plain.varTypes P).any (P.loopsFrom ·)) && (c.wideKeys == (fn.params.toList ++ s.plain.varTypes P ++ fn.resultTypes.toList).any (P.wideKeysFrom ·))) = true)
    (g11 : (s.vars.all (P.varReadable ·) && fn.resultTypes.all (fun t => P.readableRec t && decide (t < P.types.size)) && (c.ifacesOut == fn.resultTypes.toList.any (P.ifacesRec ·)) && (c.loopsOut == fn.resultTypes.toList.any (P.loopsFrom ·))) = true)
    (g12 : (c.plainKeys == P.plainKeys) = true) (g13 : (c.shortTexts.isNone && P.stopsHeard) = true)
    (g14 : P.mayEnter = true) (g15 : (c.lifted == P.liftsFinal) = true) (g16 : (P.make == some c.make) = true)
    (g17 : ((c.kinds == (if c.domain.isEmpty then [] else fn.params.toList.map fun t => match P.underlying t with | some (.int k) => some k | _ => none)) && (c.pinned == c.pinnedBy)) = true)
    (g18 : ((c.veiled == (fn.params.toList ++ s.plain.varTypes P ++ fn.resultTypes.toList).any (P.veiledRec ·)) && c.veiledFits P fn.params.toList (fn.params.toList ++ s.plain.varTypes P ++ fn.resultTypes.toList)) = true) :
    joinedFacts P f fn s c = true := by
  rw [Bool.and_eq_true, Bool.and_eq_true, Bool.and_eq_true, Bool.and_eq_true, Bool.and_eq_true] at g4
  rw [Bool.and_eq_true, Bool.and_eq_true] at g9
  rw [Bool.and_eq_true] at g10 g13 g17 g18
  rw [Bool.and_eq_true, Bool.and_eq_true, Bool.and_eq_true] at g11
  exact (both (both (both (both (both (both (both (both (both (both (both (both (both (both (both (both (both (both (both (both (both (both (both (both (both (both (both (both (both (both (both g1 g2) g3) g4.1.1.1.1.1) g4.1.1.1.1.2) g4.1.1.1.2) g4.1.1.2) g4.1.2) g4.2) g5) g6) g7) g8) g9.1.1) g9.1.2) g9.2) g10.1) g10.2) g11.1.1.1) g11.1.1.2) g11.1.2) g11.2) g12) g13.1) g13.2) g14) g15) g16) g17.1) g17.2) g18.1) g18.2)
theorem qin : mapsRowed Tryz.prog = true := by kernel_rfl
theorem qio : Tryz.prog.plainKeys = true := by kernel_rfl
theorem qip : Tryz.prog.mayEnter = true := by kernel_rfl
theorem qiq : Tryz.prog.liftsFinal = false := by kernel_rfl
theorem qir : Tryz.prog.make = some .cut := by kernel_rfl
end Go.Proofs.YtialmplmfcahpaaGreat
