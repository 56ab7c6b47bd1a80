/-
  No cell of these rows narrows 'for every input' (looked for: loops, veiled, ifaces, maps, wideKeys, modest, calm, conditions, laid).
  DERIVED. THE GIVEN ROWS OF THIS SEAT. 6 by the template 'for every input the law returns true; each argument reads behind the call as it read before'; 0 by the template 'total and deterministic' (their statements: YtamiheofgejehaaTotals.lean).
  GIVEN WITH THE SEED: the statements are not yours to turn. If you find one false, say at which input.
  Laid BY PROGRAM, IN A SANDBOX (cutbox-rows.mjs): the forced cells as the released guide's own fill.sh prints them over the translation 33f1c46c3b397e53… (all of the seat's roots in one cut). By AI agents, Wed Nov 11 2026. No macro, syntax, notation, axiom, sorry.
-/
import Derived.Test.YtamiheofgejehaaChecked
import GoSem.Claim
import GoSem.ClaimJoined
import GoSem.ClaimMapViews
import Derived.JoinedTies
import Derived.KernelRfl
namespace Go.Proofs.Ytamiheofgejehaa
/- THE CELL 'sum', in the pinned program and in every row, IS THE sha256 OF THE DUMP (.gsa) THAT YtamiheofgejehaaProg.lean LOADS. Nothing in Lean hashes anything: it is a label: what it is worth is what the hold of that sum in a sandbox is worth. -/
noncomputable def Try.pinned : Pinned := { name := "ytamiheofgejehaa", sum := "33f1c46c3b397e53195f593dcd1e96f660f90cddaba859354420c461b47177d5", checked := Try.checked }
namespace Rows
def none {H : Type} : Left H := { results := [], args := [] }

/-- 'laws.FnExactAbstractKind': WHATEVER THE INPUT: true; the input reads as it did. -/
def fnExactAbstractKindSpec : ChangeSpec := { name := "fnExactAbstractKind", fn := fun _ => fun
  | [d1, d2] => { results := [.lit (.bool true)], args := [d1, d2] }
  | _ => none }
def fnExactAbstractKindRow : OpenClaim := { program := "ytamiheofgejehaa", sum := "33f1c46c3b397e53195f593dcd1e96f660f90cddaba859354420c461b47177d5", func := "loop.example/g00973/laws.FnExactAbstractKind", spec := "fnExactAbstractKind", apart := false }
def FnExactAbstractKindSaid : Prop := fnExactAbstractKindRow.holds Try.pinned (OpenSpec.ofChange fnExactAbstractKindSpec)

/-- ITS FALSE NEIGHBOUR: 'it returns false'. Refute it at one input. -/
def fnExactAbstractKindWrong : ChangeSpec := { name := "fnExactAbstractKind", fn := fun _ => fun
  | [d1, d2] => { results := [.lit (.bool false)], args := [d1, d2] }
  | _ => none }
def FnExactAbstractKindWrongFalsely : Prop := fnExactAbstractKindRow.holds Try.pinned (OpenSpec.ofChange fnExactAbstractKindWrong)

/-- 'laws.FnExactSameOuts': WHATEVER THE INPUT: true; the input reads as it did. -/
def fnExactSameOutsSpec : ChangeSpec := { name := "fnExactSameOuts", fn := fun _ => fun
  | [d1, d2] => { results := [.lit (.bool true)], args := [d1, d2] }
  | _ => none }
def fnExactSameOutsRow : OpenClaim := { program := "ytamiheofgejehaa", sum := "33f1c46c3b397e53195f593dcd1e96f660f90cddaba859354420c461b47177d5", func := "loop.example/g00973/laws.FnExactSameOuts", spec := "fnExactSameOuts", apart := false }
def FnExactSameOutsSaid : Prop := fnExactSameOutsRow.holds Try.pinned (OpenSpec.ofChange fnExactSameOutsSpec)

/-- ITS FALSE NEIGHBOUR: 'it returns false'. Refute it at one input. -/
def fnExactSameOutsWrong : ChangeSpec := { name := "fnExactSameOuts", fn := fun _ => fun
  | [d1, d2] => { results := [.lit (.bool false)], args := [d1, d2] }
  | _ => none }
def FnExactSameOutsWrongFalsely : Prop := fnExactSameOutsRow.holds Try.pinned (OpenSpec.ofChange fnExactSameOutsWrong)

/-- 'laws.FnExactWithoutOne': WHATEVER THE INPUT: true; the input reads as it did. -/
def fnExactWithoutOneSpec : ChangeSpec := { name := "fnExactWithoutOne", fn := fun _ => fun
  | [d1, d2] => { results := [.lit (.bool true)], args := [d1, d2] }
  | _ => none }
def fnExactWithoutOneRow : OpenClaim := { program := "ytamiheofgejehaa", sum := "33f1c46c3b397e53195f593dcd1e96f660f90cddaba859354420c461b47177d5", func := "loop.example/g00973/laws.FnExactWithoutOne", spec := "fnExactWithoutOne", apart := false }
def FnExactWithoutOneSaid : Prop := fnExactWithoutOneRow.holds Try.pinned (OpenSpec.ofChange fnExactWithoutOneSpec)

/-- ITS FALSE NEIGHBOUR: 'it returns false'. Refute it at one input. -/
def fnExactWithoutOneWrong : ChangeSpec := { name := "fnExactWithoutOne", fn := fun _ => fun
  | [d1, d2] => { results := [.lit (.bool false)], args := [d1, d2] }
  | _ => none }
def FnExactWithoutOneWrongFalsely : Prop := fnExactWithoutOneRow.holds Try.pinned (OpenSpec.ofChange fnExactWithoutOneWrong)

/-- 'laws.FnExactDoneOf': WHATEVER THE INPUT: true; the input reads as it did. -/
def fnExactDoneOfSpec : ChangeSpec := { name := "fnExactDoneOf", fn := fun _ => fun
  | [d1, d2] => { results := [.lit (.bool true)], args := [d1, d2] }
  | _ => none }
def fnExactDoneOfRow : OpenClaim := { program := "ytamiheofgejehaa", sum := "33f1c46c3b397e53195f593dcd1e96f660f90cddaba859354420c461b47177d5", func := "loop.example/g00973/laws.FnExactDoneOf", spec := "fnExactDoneOf", apart := false }
def FnExactDoneOfSaid : Prop := fnExactDoneOfRow.holds Try.pinned (OpenSpec.ofChange fnExactDoneOfSpec)

/-- ITS FALSE NEIGHBOUR: 'it returns false'. Refute it at one input. -/
def fnExactDoneOfWrong : ChangeSpec := { name := "fnExactDoneOf", fn := fun _ => fun
  | [d1, d2] => { results := [.lit (.bool false)], args := [d1, d2] }
  | _ => none }
def FnExactDoneOfWrongFalsely : Prop := fnExactDoneOfRow.holds Try.pinned (OpenSpec.ofChange fnExactDoneOfWrong)

/-- 'laws.FnEachTurn': WHATEVER THE INPUT: true; the input reads as it did. -/
def fnEachTurnSpec : ChangeSpec := { name := "fnEachTurn", fn := fun _ => fun
  | [d] => { results := [.lit (.bool true)], args := [d] }
  | _ => none }
def fnEachTurnRow : OpenClaim := { program := "ytamiheofgejehaa", sum := "33f1c46c3b397e53195f593dcd1e96f660f90cddaba859354420c461b47177d5", func := "loop.example/g00973/laws.FnEachTurn", spec := "fnEachTurn", inPlace := ["slices.overlaps[loop.example/g00973/impl.Cell]"], unfollowed := true, recurses := true, apart := false }
def FnEachTurnSaid : Prop := fnEachTurnRow.holds Try.pinned (OpenSpec.ofChange fnEachTurnSpec)

/-- ITS FALSE NEIGHBOUR: 'it returns false'. Refute it at one input. -/
def fnEachTurnWrong : ChangeSpec := { name := "fnEachTurn", fn := fun _ => fun
  | [d] => { results := [.lit (.bool false)], args := [d] }
  | _ => none }
def FnEachTurnWrongFalsely : Prop := fnEachTurnRow.holds Try.pinned (OpenSpec.ofChange fnEachTurnWrong)

/-- 'laws.FnOneLess': WHATEVER THE INPUT: true; the input reads as it did. -/
def fnOneLessSpec : ChangeSpec := { name := "fnOneLess", fn := fun _ => fun
  | [d] => { results := [.lit (.bool true)], args := [d] }
  | _ => none }
def fnOneLessRow : OpenClaim := { program := "ytamiheofgejehaa", sum := "33f1c46c3b397e53195f593dcd1e96f660f90cddaba859354420c461b47177d5", func := "loop.example/g00973/laws.FnOneLess", spec := "fnOneLess", unfollowed := true, recurses := true, apart := false }
def FnOneLessSaid : Prop := fnOneLessRow.holds Try.pinned (OpenSpec.ofChange fnOneLessSpec)

/-- ITS FALSE NEIGHBOUR: 'it returns false'. Refute it at one input. -/
def fnOneLessWrong : ChangeSpec := { name := "fnOneLess", fn := fun _ => fun
  | [d] => { results := [.lit (.bool false)], args := [d] }
  | _ => none }
def FnOneLessWrongFalsely : Prop := fnOneLessRow.holds Try.pinned (OpenSpec.ofChange fnOneLessWrong)

/- THE SECOND FORM. 'bulk': how many values and letters a reading holds, each counted each time it is reached (what is shared counts as often as it is met; a slice's spare places count too). A statement '..UptoSaid' is the law's where the arguments, and the package variables that the reading takes, are together of bulk at most 1048576: NARROWER than '..Said'. Prove '..Said' where nothing that the law and all that it calls make is longer than what came in: it says more and counts as full. Else prove '..UptoSaid'. A law counts once. -/
mutual
def uptoBulk {H : Type} : DataW H → Nat
  | .lit (.string bytes) => bytes.length + 1
  | .lit _ => 1
  | .nil => 1
  | .ptr d => uptoBulk d + 1
  | .slice elems spare => uptoBulkAll elems + uptoBulkAll spare + 1
  | .agg parts => uptoBulkAll parts + 1
  | .iface _ d => uptoBulk d + 1
  | .map entries => uptoBulkEntries entries + 1
  | .held _ => 1
def uptoBulkAll {H : Type} : List (DataW H) → Nat
  | [] => 0
  | d :: r => uptoBulk d + uptoBulkAll r
def uptoBulkEntries {H : Type} : List (Lit × DataW H) → Nat
  | [] => 0
  | x :: r => uptoBulkEntry x + uptoBulkEntries r
def uptoBulkEntry {H : Type} : Lit × DataW H → Nat
  | (.string bytes, d) => bytes.length + uptoBulk d + 1
  | (_, d) => uptoBulk d + 1
 end
def uptoSmall : (H : Type) → List (DataW H) → Bool := fun _ ds => decide (uptoBulkAll ds ≤ 1048576)
def OpenSpec.upto (s : _root_.Go.ChangeSpec) : _root_.Go.OpenSpec := { _root_.Go.OpenSpec.ofChange s with cond := some uptoSmall }

/-- 'laws.FnExactAbstractKind', WHERE WHAT IT READS IS OF BULK AT MOST 1048576: true; the input reads as it did. -/
def fnExactAbstractKindUptoRow : OpenClaim := { program := "ytamiheofgejehaa", sum := "33f1c46c3b397e53195f593dcd1e96f660f90cddaba859354420c461b47177d5", func := "loop.example/g00973/laws.FnExactAbstractKind", spec := "fnExactAbstractKind", apart := false, narrowed := true }
def FnExactAbstractKindUptoSaid : Prop := fnExactAbstractKindUptoRow.holds Try.pinned (OpenSpec.upto fnExactAbstractKindSpec)

/-- 'laws.FnExactSameOuts', WHERE WHAT IT READS IS OF BULK AT MOST 1048576: true; the input reads as it did. -/
def fnExactSameOutsUptoRow : OpenClaim := { program := "ytamiheofgejehaa", sum := "33f1c46c3b397e53195f593dcd1e96f660f90cddaba859354420c461b47177d5", func := "loop.example/g00973/laws.FnExactSameOuts", spec := "fnExactSameOuts", apart := false, narrowed := true }
def FnExactSameOutsUptoSaid : Prop := fnExactSameOutsUptoRow.holds Try.pinned (OpenSpec.upto fnExactSameOutsSpec)

/-- 'laws.FnExactWithoutOne', WHERE WHAT IT READS IS OF BULK AT MOST 1048576: true; the input reads as it did. -/
def fnExactWithoutOneUptoRow : OpenClaim := { program := "ytamiheofgejehaa", sum := "33f1c46c3b397e53195f593dcd1e96f660f90cddaba859354420c461b47177d5", func := "loop.example/g00973/laws.FnExactWithoutOne", spec := "fnExactWithoutOne", apart := false, narrowed := true }
def FnExactWithoutOneUptoSaid : Prop := fnExactWithoutOneUptoRow.holds Try.pinned (OpenSpec.upto fnExactWithoutOneSpec)

/-- 'laws.FnExactDoneOf', WHERE WHAT IT READS IS OF BULK AT MOST 1048576: true; the input reads as it did. -/
def fnExactDoneOfUptoRow : OpenClaim := { program := "ytamiheofgejehaa", sum := "33f1c46c3b397e53195f593dcd1e96f660f90cddaba859354420c461b47177d5", func := "loop.example/g00973/laws.FnExactDoneOf", spec := "fnExactDoneOf", apart := false, narrowed := true }
def FnExactDoneOfUptoSaid : Prop := fnExactDoneOfUptoRow.holds Try.pinned (OpenSpec.upto fnExactDoneOfSpec)

/-- 'laws.FnEachTurn', WHERE WHAT IT READS IS OF BULK AT MOST 1048576: true; the input reads as it did. -/
def fnEachTurnUptoRow : OpenClaim := { program := "ytamiheofgejehaa", sum := "33f1c46c3b397e53195f593dcd1e96f660f90cddaba859354420c461b47177d5", func := "loop.example/g00973/laws.FnEachTurn", spec := "fnEachTurn", inPlace := ["slices.overlaps[loop.example/g00973/impl.Cell]"], unfollowed := true, recurses := true, apart := false, narrowed := true }
def FnEachTurnUptoSaid : Prop := fnEachTurnUptoRow.holds Try.pinned (OpenSpec.upto fnEachTurnSpec)

/-- 'laws.FnOneLess', WHERE WHAT IT READS IS OF BULK AT MOST 1048576: true; the input reads as it did. -/
def fnOneLessUptoRow : OpenClaim := { program := "ytamiheofgejehaa", sum := "33f1c46c3b397e53195f593dcd1e96f660f90cddaba859354420c461b47177d5", func := "loop.example/g00973/laws.FnOneLess", spec := "fnOneLess", unfollowed := true, recurses := true, apart := false, narrowed := true }
def FnOneLessUptoSaid : Prop := fnOneLessUptoRow.holds Try.pinned (OpenSpec.upto fnOneLessSpec)

end Rows
end Go.Proofs.Ytamiheofgejehaa
