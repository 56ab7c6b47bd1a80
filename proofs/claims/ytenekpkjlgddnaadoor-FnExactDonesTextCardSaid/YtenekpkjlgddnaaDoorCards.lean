/-
  DERIVED. GIVEN WITH THE SEED: THE CARDS: each row of YtenekpkjlgddnaaDoorRows.lean that lists a variable, with what it lists TIED to the program's text (the seventh form; the later family's looks); each row that meets fmt, with fmt's text TOLD by the authors' own Lean function (tested against real Go, not proved from fmt's source: count such statements apart). THE CARD IS WHAT COUNTS. Prove the row's statement (the work); the ties are given (YtenekpkjlgddnaaDoorTie.lean); close each card by the builder's one call (the guide's Derived/Test/ToyasCard.lean, 'card_holds'). Laid BY PROGRAM, IN A SANDBOX (cutbox-door.mjs). By AI agents, Wed Nov 11 2026. No macro, syntax, notation, axiom, sorry.
-/
import Derived.Test.YtenekpkjlgddnaaDoorRows
import GoSem.ClaimSeven
namespace Go.Proofs.YtenekpkjlgddnaaDoor
namespace Rows

/-- THE TIED CARD OF 'laws.FnExactPickText'. -/
def fnExactPickTextCard : Claim7 := { stood := { row := fnExactPickTextRow, standIns := [], harness := (true, "0710f6c4eba1987a2e74a68020f23a2b115d5f801b7b7b71f0e4d7a0ad7e165f"), looks := false }, kinds := [], alts := [], laidByText := true, laidKinds := [.data, .data, .data], laidTests := true, laidLooks := .later }
def FnExactPickTextCardSaid : Prop := Claim7.holds Tryd.pinned (.plain (OpenSpec.ofChange fnExactPickTextSpec)) fnExactPickTextCard

/-- THE TIED CARD OF 'laws.FnExactDonesText'. -/
def fnExactDonesTextCard : Claim7 := { stood := { row := fnExactDonesTextRow, standIns := [], harness := (true, "0710f6c4eba1987a2e74a68020f23a2b115d5f801b7b7b71f0e4d7a0ad7e165f"), looks := false }, kinds := [], alts := [], laidByText := true, laidKinds := [.data, .data, .data], laidTests := true, laidLooks := .later }
def FnExactDonesTextCardSaid : Prop := Claim7.holds Tryd.pinned (.plain (OpenSpec.ofChange fnExactDonesTextSpec)) fnExactDonesTextCard

/-- THE SECOND FORM's CARD OF 'laws.FnExactPickText'. -/
def fnExactPickTextUptoCard : Claim7 := { stood := { row := fnExactPickTextUptoRow, standIns := [], harness := (true, "0710f6c4eba1987a2e74a68020f23a2b115d5f801b7b7b71f0e4d7a0ad7e165f"), looks := false }, kinds := [], alts := [], laidByText := true, laidKinds := [.data, .data, .data], laidTests := true, laidLooks := .later }
def FnExactPickTextUptoCardSaid : Prop := Claim7.holds Tryd.pinned (.plain (OpenSpec.upto fnExactPickTextSpec)) fnExactPickTextUptoCard

/-- THE SECOND FORM's CARD OF 'laws.FnExactDonesText'. -/
def fnExactDonesTextUptoCard : Claim7 := { stood := { row := fnExactDonesTextUptoRow, standIns := [], harness := (true, "0710f6c4eba1987a2e74a68020f23a2b115d5f801b7b7b71f0e4d7a0ad7e165f"), looks := false }, kinds := [], alts := [], laidByText := true, laidKinds := [.data, .data, .data], laidTests := true, laidLooks := .later }
def FnExactDonesTextUptoCardSaid : Prop := Claim7.holds Tryd.pinned (.plain (OpenSpec.upto fnExactDonesTextSpec)) fnExactDonesTextUptoCard
end Rows
end Go.Proofs.YtenekpkjlgddnaaDoor
