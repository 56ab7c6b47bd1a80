/-
  No cell of these rows narrows 'for every input' (looked for: loops, veiled, ifaces, maps, wideKeys, modest, calm, conditions, laid).
  DERIVED. THE GIVEN ROWS OF THIS SEAT. 8 by the template 'for every input the law returns true; each argument reads behind the call as it read before'; 0 by the template 'total and deterministic' (their statements: YtbbjajmimckabaaTotals.lean).
  GIVEN WITH THE SEED: the statements are not yours to turn. If you find one false, say at which input.
  Laid BY PROGRAM, IN A SANDBOX (cutbox-rows.mjs): the forced cells as the released guide's own fill.sh prints them over the translation 48aaa992e7725b30… (all of the seat's roots in one cut). By AI agents, Wed Nov 11 2026. No macro, syntax, notation, axiom, sorry.
-/
import Derived.Test.YtbbjajmimckabaaChecked
import GoSem.Claim
import GoSem.ClaimJoined
import GoSem.ClaimMapViews
import Derived.JoinedTies
import Derived.KernelRfl
namespace Go.Proofs.Ytbbjajmimckabaa
/- THE CELL 'sum', in the pinned program and in every row, IS THE sha256 OF THE DUMP (.gsa) THAT YtbbjajmimckabaaProg.lean LOADS. Nothing in Lean hashes anything: it is a label: what it is worth is what the hold of that sum in a sandbox is worth. -/
noncomputable def Try.pinned : Pinned := { name := "ytbbjajmimckabaa", sum := "48aaa992e7725b302d181acc3ec71d197c2961e821c8e9ecc9f98c80558e5001", checked := Try.checked }
namespace Rows
def none {H : Type} : Left H := { results := [], args := [] }

/-- 'laws.FnExactWithoutOne': WHATEVER THE INPUT: true; the input reads as it did. -/
def fnExactWithoutOneSpec : ChangeSpec := { name := "fnExactWithoutOne", fn := fun _ => fun
  | [d1, d2] => { results := [.lit (.bool true)], args := [d1, d2] }
  | _ => none }
def fnExactWithoutOneRow : OpenClaim := { program := "ytbbjajmimckabaa", sum := "48aaa992e7725b302d181acc3ec71d197c2961e821c8e9ecc9f98c80558e5001", func := "loop.example/g00973/laws.FnExactWithoutOne", spec := "fnExactWithoutOne", apart := false }
def FnExactWithoutOneSaid : Prop := fnExactWithoutOneRow.holds Try.pinned (OpenSpec.ofChange fnExactWithoutOneSpec)

/-- ITS FALSE NEIGHBOUR: 'it returns false'. Refute it at one input. -/
def fnExactWithoutOneWrong : ChangeSpec := { name := "fnExactWithoutOne", fn := fun _ => fun
  | [d1, d2] => { results := [.lit (.bool false)], args := [d1, d2] }
  | _ => none }
def FnExactWithoutOneWrongFalsely : Prop := fnExactWithoutOneRow.holds Try.pinned (OpenSpec.ofChange fnExactWithoutOneWrong)

/-- 'laws.FnExactConsumed': WHATEVER THE INPUT: true; the input reads as it did. -/
def fnExactConsumedSpec : ChangeSpec := { name := "fnExactConsumed", fn := fun _ => fun
  | [d1, d2] => { results := [.lit (.bool true)], args := [d1, d2] }
  | _ => none }
def fnExactConsumedRow : OpenClaim := { program := "ytbbjajmimckabaa", sum := "48aaa992e7725b302d181acc3ec71d197c2961e821c8e9ecc9f98c80558e5001", func := "loop.example/g00973/laws.FnExactConsumed", spec := "fnExactConsumed", apart := false }
def FnExactConsumedSaid : Prop := fnExactConsumedRow.holds Try.pinned (OpenSpec.ofChange fnExactConsumedSpec)

/-- ITS FALSE NEIGHBOUR: 'it returns false'. Refute it at one input. -/
def fnExactConsumedWrong : ChangeSpec := { name := "fnExactConsumed", fn := fun _ => fun
  | [d1, d2] => { results := [.lit (.bool false)], args := [d1, d2] }
  | _ => none }
def FnExactConsumedWrongFalsely : Prop := fnExactConsumedRow.holds Try.pinned (OpenSpec.ofChange fnExactConsumedWrong)

/-- 'laws.FnExactAllPicks': WHATEVER THE INPUT: true; the input reads as it did. -/
def fnExactAllPicksSpec : ChangeSpec := { name := "fnExactAllPicks", fn := fun _ => fun
  | [d] => { results := [.lit (.bool true)], args := [d] }
  | _ => none }
def fnExactAllPicksRow : OpenClaim := { program := "ytbbjajmimckabaa", sum := "48aaa992e7725b302d181acc3ec71d197c2961e821c8e9ecc9f98c80558e5001", func := "loop.example/g00973/laws.FnExactAllPicks", spec := "fnExactAllPicks", apart := false }
def FnExactAllPicksSaid : Prop := fnExactAllPicksRow.holds Try.pinned (OpenSpec.ofChange fnExactAllPicksSpec)

/-- ITS FALSE NEIGHBOUR: 'it returns false'. Refute it at one input. -/
def fnExactAllPicksWrong : ChangeSpec := { name := "fnExactAllPicks", fn := fun _ => fun
  | [d] => { results := [.lit (.bool false)], args := [d] }
  | _ => none }
def FnExactAllPicksWrongFalsely : Prop := fnExactAllPicksRow.holds Try.pinned (OpenSpec.ofChange fnExactAllPicksWrong)

/-- 'laws.FnExactCellsIn': WHATEVER THE INPUT: true; the input reads as it did. -/
def fnExactCellsInSpec : ChangeSpec := { name := "fnExactCellsIn", fn := fun _ => fun
  | [d] => { results := [.lit (.bool true)], args := [d] }
  | _ => none }
def fnExactCellsInRow : OpenClaim := { program := "ytbbjajmimckabaa", sum := "48aaa992e7725b302d181acc3ec71d197c2961e821c8e9ecc9f98c80558e5001", func := "loop.example/g00973/laws.FnExactCellsIn", spec := "fnExactCellsIn", inPlace := ["slices.overlaps[loop.example/g00973/impl.Cell]"], apart := false }
def FnExactCellsInSaid : Prop := fnExactCellsInRow.holds Try.pinned (OpenSpec.ofChange fnExactCellsInSpec)

/-- ITS FALSE NEIGHBOUR: 'it returns false'. Refute it at one input. -/
def fnExactCellsInWrong : ChangeSpec := { name := "fnExactCellsIn", fn := fun _ => fun
  | [d] => { results := [.lit (.bool false)], args := [d] }
  | _ => none }
def FnExactCellsInWrongFalsely : Prop := fnExactCellsInRow.holds Try.pinned (OpenSpec.ofChange fnExactCellsInWrong)

/-- 'laws.FnExactOutCells': WHATEVER THE INPUT: true; the input reads as it did. -/
def fnExactOutCellsSpec : ChangeSpec := { name := "fnExactOutCells", fn := fun _ => fun
  | [d1, d2] => { results := [.lit (.bool true)], args := [d1, d2] }
  | _ => none }
def fnExactOutCellsRow : OpenClaim := { program := "ytbbjajmimckabaa", sum := "48aaa992e7725b302d181acc3ec71d197c2961e821c8e9ecc9f98c80558e5001", func := "loop.example/g00973/laws.FnExactOutCells", spec := "fnExactOutCells", inPlace := ["slices.overlaps[loop.example/g00973/impl.Cell]"], apart := false }
def FnExactOutCellsSaid : Prop := fnExactOutCellsRow.holds Try.pinned (OpenSpec.ofChange fnExactOutCellsSpec)

/-- ITS FALSE NEIGHBOUR: 'it returns false'. Refute it at one input. -/
def fnExactOutCellsWrong : ChangeSpec := { name := "fnExactOutCells", fn := fun _ => fun
  | [d1, d2] => { results := [.lit (.bool false)], args := [d1, d2] }
  | _ => none }
def FnExactOutCellsWrongFalsely : Prop := fnExactOutCellsRow.holds Try.pinned (OpenSpec.ofChange fnExactOutCellsWrong)

/-- 'laws.FnExactAloneSteps': WHATEVER THE INPUT: true; the input reads as it did. -/
def fnExactAloneStepsSpec : ChangeSpec := { name := "fnExactAloneSteps", fn := fun _ => fun
  | [d1, d2, d3] => { results := [.lit (.bool true)], args := [d1, d2, d3] }
  | _ => none }
def fnExactAloneStepsRow : OpenClaim := { program := "ytbbjajmimckabaa", sum := "48aaa992e7725b302d181acc3ec71d197c2961e821c8e9ecc9f98c80558e5001", func := "loop.example/g00973/laws.FnExactAloneSteps", spec := "fnExactAloneSteps", inPlace := ["slices.overlaps[loop.example/g00973/impl.Cell]"], unfollowed := true, recurses := true, apart := false }
def FnExactAloneStepsSaid : Prop := fnExactAloneStepsRow.holds Try.pinned (OpenSpec.ofChange fnExactAloneStepsSpec)

/-- ITS FALSE NEIGHBOUR: 'it returns false'. Refute it at one input. -/
def fnExactAloneStepsWrong : ChangeSpec := { name := "fnExactAloneSteps", fn := fun _ => fun
  | [d1, d2, d3] => { results := [.lit (.bool false)], args := [d1, d2, d3] }
  | _ => none }
def FnExactAloneStepsWrongFalsely : Prop := fnExactAloneStepsRow.holds Try.pinned (OpenSpec.ofChange fnExactAloneStepsWrong)

/-- 'laws.FnExactAloneRun': WHATEVER THE INPUT: true; the input reads as it did. -/
def fnExactAloneRunSpec : ChangeSpec := { name := "fnExactAloneRun", fn := fun _ => fun
  | [d1, d2, d3] => { results := [.lit (.bool true)], args := [d1, d2, d3] }
  | _ => none }
def fnExactAloneRunRow : OpenClaim := { program := "ytbbjajmimckabaa", sum := "48aaa992e7725b302d181acc3ec71d197c2961e821c8e9ecc9f98c80558e5001", func := "loop.example/g00973/laws.FnExactAloneRun", spec := "fnExactAloneRun", inPlace := ["slices.overlaps[loop.example/g00973/impl.Cell]"], unfollowed := true, recurses := true, apart := false }
def FnExactAloneRunSaid : Prop := fnExactAloneRunRow.holds Try.pinned (OpenSpec.ofChange fnExactAloneRunSpec)

/-- ITS FALSE NEIGHBOUR: 'it returns false'. Refute it at one input. -/
def fnExactAloneRunWrong : ChangeSpec := { name := "fnExactAloneRun", fn := fun _ => fun
  | [d1, d2, d3] => { results := [.lit (.bool false)], args := [d1, d2, d3] }
  | _ => none }
def FnExactAloneRunWrongFalsely : Prop := fnExactAloneRunRow.holds Try.pinned (OpenSpec.ofChange fnExactAloneRunWrong)

/-- 'laws.FnExactAloneOuts': WHATEVER THE INPUT: true; the input reads as it did. -/
def fnExactAloneOutsSpec : ChangeSpec := { name := "fnExactAloneOuts", fn := fun _ => fun
  | [d1, d2, d3] => { results := [.lit (.bool true)], args := [d1, d2, d3] }
  | _ => none }
def fnExactAloneOutsRow : OpenClaim := { program := "ytbbjajmimckabaa", sum := "48aaa992e7725b302d181acc3ec71d197c2961e821c8e9ecc9f98c80558e5001", func := "loop.example/g00973/laws.FnExactAloneOuts", spec := "fnExactAloneOuts", inPlace := ["slices.overlaps[loop.example/g00973/impl.Cell]"], unfollowed := true, recurses := true, apart := false }
def FnExactAloneOutsSaid : Prop := fnExactAloneOutsRow.holds Try.pinned (OpenSpec.ofChange fnExactAloneOutsSpec)

/-- ITS FALSE NEIGHBOUR: 'it returns false'. Refute it at one input. -/
def fnExactAloneOutsWrong : ChangeSpec := { name := "fnExactAloneOuts", fn := fun _ => fun
  | [d1, d2, d3] => { results := [.lit (.bool false)], args := [d1, d2, d3] }
  | _ => none }
def FnExactAloneOutsWrongFalsely : Prop := fnExactAloneOutsRow.holds Try.pinned (OpenSpec.ofChange fnExactAloneOutsWrong)

/- THE SECOND FORM. 'bulk': how many values and letters a reading holds, each counted each time it is reached (what is shared counts as often as it is met; a slice's spare places count too). A statement '..UptoSaid' is the law's where the arguments, and the package variables that the reading takes, are together of bulk at most 1048576: NARROWER than '..Said'. Prove '..Said' where nothing that the law and all that it calls make is longer than what came in: it says more and counts as full. Else prove '..UptoSaid'. A law counts once. -/
mutual
def uptoBulk {H : Type} : DataW H → Nat
  | .lit (.string bytes) => bytes.length + 1
  | .lit _ => 1
  | .nil => 1
  | .ptr d => uptoBulk d + 1
  | .slice elems spare => uptoBulkAll elems + uptoBulkAll spare + 1
  | .agg parts => uptoBulkAll parts + 1
  | .iface _ d => uptoBulk d + 1
  | .map entries => uptoBulkEntries entries + 1
  | .held _ => 1
def uptoBulkAll {H : Type} : List (DataW H) → Nat
  | [] => 0
  | d :: r => uptoBulk d + uptoBulkAll r
def uptoBulkEntries {H : Type} : List (Lit × DataW H) → Nat
  | [] => 0
  | x :: r => uptoBulkEntry x + uptoBulkEntries r
def uptoBulkEntry {H : Type} : Lit × DataW H → Nat
  | (.string bytes, d) => bytes.length + uptoBulk d + 1
  | (_, d) => uptoBulk d + 1
 end
def uptoSmall : (H : Type) → List (DataW H) → Bool := fun _ ds => decide (uptoBulkAll ds ≤ 1048576)
def OpenSpec.upto (s : _root_.Go.ChangeSpec) : _root_.Go.OpenSpec := { _root_.Go.OpenSpec.ofChange s with cond := some uptoSmall }

/-- 'laws.FnExactWithoutOne', WHERE WHAT IT READS IS OF BULK AT MOST 1048576: true; the input reads as it did. -/
def fnExactWithoutOneUptoRow : OpenClaim := { program := "ytbbjajmimckabaa", sum := "48aaa992e7725b302d181acc3ec71d197c2961e821c8e9ecc9f98c80558e5001", func := "loop.example/g00973/laws.FnExactWithoutOne", spec := "fnExactWithoutOne", apart := false, narrowed := true }
def FnExactWithoutOneUptoSaid : Prop := fnExactWithoutOneUptoRow.holds Try.pinned (OpenSpec.upto fnExactWithoutOneSpec)

/-- 'laws.FnExactConsumed', WHERE WHAT IT READS IS OF BULK AT MOST 1048576: true; the input reads as it did. -/
def fnExactConsumedUptoRow : OpenClaim := { program := "ytbbjajmimckabaa", sum := "48aaa992e7725b302d181acc3ec71d197c2961e821c8e9ecc9f98c80558e5001", func := "loop.example/g00973/laws.FnExactConsumed", spec := "fnExactConsumed", apart := false, narrowed := true }
def FnExactConsumedUptoSaid : Prop := fnExactConsumedUptoRow.holds Try.pinned (OpenSpec.upto fnExactConsumedSpec)

/-- 'laws.FnExactAllPicks', WHERE WHAT IT READS IS OF BULK AT MOST 1048576: true; the input reads as it did. -/
def fnExactAllPicksUptoRow : OpenClaim := { program := "ytbbjajmimckabaa", sum := "48aaa992e7725b302d181acc3ec71d197c2961e821c8e9ecc9f98c80558e5001", func := "loop.example/g00973/laws.FnExactAllPicks", spec := "fnExactAllPicks", apart := false, narrowed := true }
def FnExactAllPicksUptoSaid : Prop := fnExactAllPicksUptoRow.holds Try.pinned (OpenSpec.upto fnExactAllPicksSpec)

/-- 'laws.FnExactCellsIn', WHERE WHAT IT READS IS OF BULK AT MOST 1048576: true; the input reads as it did. -/
def fnExactCellsInUptoRow : OpenClaim := { program := "ytbbjajmimckabaa", sum := "48aaa992e7725b302d181acc3ec71d197c2961e821c8e9ecc9f98c80558e5001", func := "loop.example/g00973/laws.FnExactCellsIn", spec := "fnExactCellsIn", inPlace := ["slices.overlaps[loop.example/g00973/impl.Cell]"], apart := false, narrowed := true }
def FnExactCellsInUptoSaid : Prop := fnExactCellsInUptoRow.holds Try.pinned (OpenSpec.upto fnExactCellsInSpec)

/-- 'laws.FnExactOutCells', WHERE WHAT IT READS IS OF BULK AT MOST 1048576: true; the input reads as it did. -/
def fnExactOutCellsUptoRow : OpenClaim := { program := "ytbbjajmimckabaa", sum := "48aaa992e7725b302d181acc3ec71d197c2961e821c8e9ecc9f98c80558e5001", func := "loop.example/g00973/laws.FnExactOutCells", spec := "fnExactOutCells", inPlace := ["slices.overlaps[loop.example/g00973/impl.Cell]"], apart := false, narrowed := true }
def FnExactOutCellsUptoSaid : Prop := fnExactOutCellsUptoRow.holds Try.pinned (OpenSpec.upto fnExactOutCellsSpec)

/-- 'laws.FnExactAloneSteps', WHERE WHAT IT READS IS OF BULK AT MOST 1048576: true; the input reads as it did. -/
def fnExactAloneStepsUptoRow : OpenClaim := { program := "ytbbjajmimckabaa", sum := "48aaa992e7725b302d181acc3ec71d197c2961e821c8e9ecc9f98c80558e5001", func := "loop.example/g00973/laws.FnExactAloneSteps", spec := "fnExactAloneSteps", inPlace := ["slices.overlaps[loop.example/g00973/impl.Cell]"], unfollowed := true, recurses := true, apart := false, narrowed := true }
def FnExactAloneStepsUptoSaid : Prop := fnExactAloneStepsUptoRow.holds Try.pinned (OpenSpec.upto fnExactAloneStepsSpec)

/-- 'laws.FnExactAloneRun', WHERE WHAT IT READS IS OF BULK AT MOST 1048576: true; the input reads as it did. -/
def fnExactAloneRunUptoRow : OpenClaim := { program := "ytbbjajmimckabaa", sum := "48aaa992e7725b302d181acc3ec71d197c2961e821c8e9ecc9f98c80558e5001", func := "loop.example/g00973/laws.FnExactAloneRun", spec := "fnExactAloneRun", inPlace := ["slices.overlaps[loop.example/g00973/impl.Cell]"], unfollowed := true, recurses := true, apart := false, narrowed := true }
def FnExactAloneRunUptoSaid : Prop := fnExactAloneRunUptoRow.holds Try.pinned (OpenSpec.upto fnExactAloneRunSpec)

/-- 'laws.FnExactAloneOuts', WHERE WHAT IT READS IS OF BULK AT MOST 1048576: true; the input reads as it did. -/
def fnExactAloneOutsUptoRow : OpenClaim := { program := "ytbbjajmimckabaa", sum := "48aaa992e7725b302d181acc3ec71d197c2961e821c8e9ecc9f98c80558e5001", func := "loop.example/g00973/laws.FnExactAloneOuts", spec := "fnExactAloneOuts", inPlace := ["slices.overlaps[loop.example/g00973/impl.Cell]"], unfollowed := true, recurses := true, apart := false, narrowed := true }
def FnExactAloneOutsUptoSaid : Prop := fnExactAloneOutsUptoRow.holds Try.pinned (OpenSpec.upto fnExactAloneOutsSpec)

end Rows
end Go.Proofs.Ytbbjajmimckabaa
