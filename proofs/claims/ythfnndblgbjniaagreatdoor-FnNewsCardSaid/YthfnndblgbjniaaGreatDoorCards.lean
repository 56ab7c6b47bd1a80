/-
  DERIVED. GIVEN WITH THE SEED: THE CARDS: each row of YthfnndblgbjniaaGreatDoorRows.lean that lists a variable, with what it lists TIED to the program's text (the seventh form; the later family's looks); each row that meets fmt, with fmt's text TOLD by the authors' own Lean function (tested against real Go, not proved from fmt's source: count such statements apart). THE CARD IS WHAT COUNTS. Prove the row's statement (the work); the ties are given (YthfnndblgbjniaaGreatDoorTie.lean); close each card by the builder's one call (the guide's Derived/Test/ToyasCard.lean, 'card_holds'). Laid BY PROGRAM, IN A SANDBOX (cutbox-door.mjs). By AI agents, Wed Nov 11 2026. No macro, syntax, notation, axiom, sorry.
-/
import Derived.Test.YthfnndblgbjniaaGreatDoorRows
import GoSem.ClaimSeven
namespace Go.Proofs.YthfnndblgbjniaaGreatDoor
namespace Rows

/-- THE TIED CARD OF 'laws.FnNews'. -/
def fnNewsCard : Claim7 := { stood := { row := fnNewsRow, standIns := [], harness := (true, "9824b0ff05f2973f6370e83f459c41c8ae47016b4bcee8d2cbfe73bc67758ba8"), looks := false }, kinds := [], alts := [], laidByText := true, laidKinds := [.data, .data, .data], laidTests := true, laidLooks := .later }
def FnNewsCardSaid : Prop := Claim7.holds Tryz.pinned (.plain (OpenSpec.ofChange fnNewsSpec)) fnNewsCard

/-- THE TIED CARD OF 'laws.FnPicks'. -/
def fnPicksCard : Claim7 := { stood := { row := fnPicksRow, standIns := [], harness := (true, "9824b0ff05f2973f6370e83f459c41c8ae47016b4bcee8d2cbfe73bc67758ba8"), looks := false }, kinds := [], alts := [], laidByText := true, laidKinds := [.data, .data, .data], laidTests := true, laidLooks := .later }
def FnPicksCardSaid : Prop := Claim7.holds Tryz.pinned (.plain (OpenSpec.ofChange fnPicksSpec)) fnPicksCard

/-- THE SECOND FORM's CARD OF 'laws.FnNews'. -/
def fnNewsUptoCard : Claim7 := { stood := { row := fnNewsUptoRow, standIns := [], harness := (true, "9824b0ff05f2973f6370e83f459c41c8ae47016b4bcee8d2cbfe73bc67758ba8"), looks := false }, kinds := [], alts := [], laidByText := true, laidKinds := [.data, .data, .data], laidTests := true, laidLooks := .later }
def FnNewsUptoCardSaid : Prop := Claim7.holds Tryz.pinned (.plain (OpenSpec.upto fnNewsSpec)) fnNewsUptoCard

/-- THE SECOND FORM's CARD OF 'laws.FnPicks'. -/
def fnPicksUptoCard : Claim7 := { stood := { row := fnPicksUptoRow, standIns := [], harness := (true, "9824b0ff05f2973f6370e83f459c41c8ae47016b4bcee8d2cbfe73bc67758ba8"), looks := false }, kinds := [], alts := [], laidByText := true, laidKinds := [.data, .data, .data], laidTests := true, laidLooks := .later }
def FnPicksUptoCardSaid : Prop := Claim7.holds Tryz.pinned (.plain (OpenSpec.upto fnPicksSpec)) fnPicksUptoCard
end Rows
end Go.Proofs.YthfnndblgbjniaaGreatDoor
