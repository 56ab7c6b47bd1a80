/-
  No cell of these rows narrows 'for every input' (looked for: loops, veiled, ifaces, maps, wideKeys, modest, calm, conditions, laid).
  DERIVED. THE GIVEN ROWS OF THIS SEAT. 8 by the template 'for every input the law returns true; each argument reads behind the call as it read before'; 0 by the template 'total and deterministic' (their statements: YtdanpadojemjeaaGreatTotals.lean).
  GIVEN WITH THE SEED: the statements are not yours to turn. If you find one false, say at which input.
  Laid BY PROGRAM, IN A SANDBOX (cutbox-rows.mjs): the forced cells as the released guide's own fill.sh prints them over the translation f886960024169cd2… (all of the seat's roots in one cut). By AI agents, Wed Nov 11 2026. No macro, syntax, notation, axiom, sorry.
-/
import Derived.Test.YtdanpadojemjeaaGreatChecked
import GoSem.Claim
import GoSem.ClaimJoined
import GoSem.ClaimMapViews
import Derived.JoinedTies
import Derived.KernelRfl
namespace Go.Proofs.YtdanpadojemjeaaGreat
/- THE CELL 'sum', in the pinned program and in every row, IS THE sha256 OF THE DUMP (.gsa) THAT YtdanpadojemjeaaGreatProg.lean LOADS. Nothing in Lean hashes anything: it is a label: what it is worth is what the hold of that sum in a sandbox is worth. -/
noncomputable def Tryz.pinned : Pinned := { name := "ytdanpadojemjeaagreat", sum := "f886960024169cd221b849a69552e2c60b7c7d6b679c1c794eea831eaedcaa9d", checked := Tryz.checked }
namespace Rows
def none {H : Type} : Left H := { results := [], args := [] }

/-- 'laws.FnExactHearNews': WHATEVER THE INPUT: true; the input reads as it did. -/
def fnExactHearNewsSpec : ChangeSpec := { name := "fnExactHearNews", fn := fun _ => fun
  | [d1, d2] => { results := [.lit (.bool true)], args := [d1, d2] }
  | _ => none }
def fnExactHearNewsRow : OpenClaim := { program := "ytdanpadojemjeaagreat", sum := "f886960024169cd221b849a69552e2c60b7c7d6b679c1c794eea831eaedcaa9d", func := "loop.example/g00973/laws.FnExactHearNews", spec := "fnExactHearNews", unfollowed := true, recurses := true, apart := false }
def FnExactHearNewsSaid : Prop := fnExactHearNewsRow.holds Tryz.pinned (OpenSpec.ofChange fnExactHearNewsSpec)

/-- ITS FALSE NEIGHBOUR: 'it returns false'. Refute it at one input. -/
def fnExactHearNewsWrong : ChangeSpec := { name := "fnExactHearNews", fn := fun _ => fun
  | [d1, d2] => { results := [.lit (.bool false)], args := [d1, d2] }
  | _ => none }
def FnExactHearNewsWrongFalsely : Prop := fnExactHearNewsRow.holds Tryz.pinned (OpenSpec.ofChange fnExactHearNewsWrong)

/-- 'laws.FnExactTokenStep': WHATEVER THE INPUT: true; the input reads as it did. -/
def fnExactTokenStepSpec : ChangeSpec := { name := "fnExactTokenStep", fn := fun _ => fun
  | [d1, d2] => { results := [.lit (.bool true)], args := [d1, d2] }
  | _ => none }
def fnExactTokenStepRow : OpenClaim := { program := "ytdanpadojemjeaagreat", sum := "f886960024169cd221b849a69552e2c60b7c7d6b679c1c794eea831eaedcaa9d", func := "loop.example/g00973/laws.FnExactTokenStep", spec := "fnExactTokenStep", unfollowed := true, recurses := true, apart := false }
def FnExactTokenStepSaid : Prop := fnExactTokenStepRow.holds Tryz.pinned (OpenSpec.ofChange fnExactTokenStepSpec)

/-- ITS FALSE NEIGHBOUR: 'it returns false'. Refute it at one input. -/
def fnExactTokenStepWrong : ChangeSpec := { name := "fnExactTokenStep", fn := fun _ => fun
  | [d1, d2] => { results := [.lit (.bool false)], args := [d1, d2] }
  | _ => none }
def FnExactTokenStepWrongFalsely : Prop := fnExactTokenStepRow.holds Tryz.pinned (OpenSpec.ofChange fnExactTokenStepWrong)

/-- 'laws.FnExactCanMove': WHATEVER THE INPUT: true; the input reads as it did. -/
def fnExactCanMoveSpec : ChangeSpec := { name := "fnExactCanMove", fn := fun _ => fun
  | [d] => { results := [.lit (.bool true)], args := [d] }
  | _ => none }
def fnExactCanMoveRow : OpenClaim := { program := "ytdanpadojemjeaagreat", sum := "f886960024169cd221b849a69552e2c60b7c7d6b679c1c794eea831eaedcaa9d", func := "loop.example/g00973/laws.FnExactCanMove", spec := "fnExactCanMove", inPlace := ["slices.overlaps[loop.example/g00973/impl.Cell]"], unfollowed := true, recurses := true, apart := false }
def FnExactCanMoveSaid : Prop := fnExactCanMoveRow.holds Tryz.pinned (OpenSpec.ofChange fnExactCanMoveSpec)

/-- ITS FALSE NEIGHBOUR: 'it returns false'. Refute it at one input. -/
def fnExactCanMoveWrong : ChangeSpec := { name := "fnExactCanMove", fn := fun _ => fun
  | [d] => { results := [.lit (.bool false)], args := [d] }
  | _ => none }
def FnExactCanMoveWrongFalsely : Prop := fnExactCanMoveRow.holds Tryz.pinned (OpenSpec.ofChange fnExactCanMoveWrong)

/-- 'laws.FnExactStepPick': WHATEVER THE INPUT: true; the input reads as it did. -/
def fnExactStepPickSpec : ChangeSpec := { name := "fnExactStepPick", fn := fun _ => fun
  | [d1, d2] => { results := [.lit (.bool true)], args := [d1, d2] }
  | _ => none }
def fnExactStepPickRow : OpenClaim := { program := "ytdanpadojemjeaagreat", sum := "f886960024169cd221b849a69552e2c60b7c7d6b679c1c794eea831eaedcaa9d", func := "loop.example/g00973/laws.FnExactStepPick", spec := "fnExactStepPick", inPlace := ["slices.overlaps[loop.example/g00973/impl.Cell]"], unfollowed := true, recurses := true, apart := false }
def FnExactStepPickSaid : Prop := fnExactStepPickRow.holds Tryz.pinned (OpenSpec.ofChange fnExactStepPickSpec)

/-- ITS FALSE NEIGHBOUR: 'it returns false'. Refute it at one input. -/
def fnExactStepPickWrong : ChangeSpec := { name := "fnExactStepPick", fn := fun _ => fun
  | [d1, d2] => { results := [.lit (.bool false)], args := [d1, d2] }
  | _ => none }
def FnExactStepPickWrongFalsely : Prop := fnExactStepPickRow.holds Tryz.pinned (OpenSpec.ofChange fnExactStepPickWrong)

/-- 'laws.FnExactRunPicks': WHATEVER THE INPUT: true; the input reads as it did. -/
def fnExactRunPicksSpec : ChangeSpec := { name := "fnExactRunPicks", fn := fun _ => fun
  | [d1, d2] => { results := [.lit (.bool true)], args := [d1, d2] }
  | _ => none }
def fnExactRunPicksRow : OpenClaim := { program := "ytdanpadojemjeaagreat", sum := "f886960024169cd221b849a69552e2c60b7c7d6b679c1c794eea831eaedcaa9d", func := "loop.example/g00973/laws.FnExactRunPicks", spec := "fnExactRunPicks", inPlace := ["slices.overlaps[loop.example/g00973/impl.Cell]"], unfollowed := true, recurses := true, apart := false }
def FnExactRunPicksSaid : Prop := fnExactRunPicksRow.holds Tryz.pinned (OpenSpec.ofChange fnExactRunPicksSpec)

/-- ITS FALSE NEIGHBOUR: 'it returns false'. Refute it at one input. -/
def fnExactRunPicksWrong : ChangeSpec := { name := "fnExactRunPicks", fn := fun _ => fun
  | [d1, d2] => { results := [.lit (.bool false)], args := [d1, d2] }
  | _ => none }
def FnExactRunPicksWrongFalsely : Prop := fnExactRunPicksRow.holds Tryz.pinned (OpenSpec.ofChange fnExactRunPicksWrong)

/-- 'laws.FnExactFairRound': WHATEVER THE INPUT: true; the input reads as it did. -/
def fnExactFairRoundSpec : ChangeSpec := { name := "fnExactFairRound", fn := fun _ => fun
  | [d] => { results := [.lit (.bool true)], args := [d] }
  | _ => none }
def fnExactFairRoundRow : OpenClaim := { program := "ytdanpadojemjeaagreat", sum := "f886960024169cd221b849a69552e2c60b7c7d6b679c1c794eea831eaedcaa9d", func := "loop.example/g00973/laws.FnExactFairRound", spec := "fnExactFairRound", inPlace := ["slices.overlaps[loop.example/g00973/impl.Cell]"], unfollowed := true, recurses := true, apart := false }
def FnExactFairRoundSaid : Prop := fnExactFairRoundRow.holds Tryz.pinned (OpenSpec.ofChange fnExactFairRoundSpec)

/-- ITS FALSE NEIGHBOUR: 'it returns false'. Refute it at one input. -/
def fnExactFairRoundWrong : ChangeSpec := { name := "fnExactFairRound", fn := fun _ => fun
  | [d] => { results := [.lit (.bool false)], args := [d] }
  | _ => none }
def FnExactFairRoundWrongFalsely : Prop := fnExactFairRoundRow.holds Tryz.pinned (OpenSpec.ofChange fnExactFairRoundWrong)

/-- 'laws.FnExactFairRun': WHATEVER THE INPUT: true; the input reads as it did. -/
def fnExactFairRunSpec : ChangeSpec := { name := "fnExactFairRun", fn := fun _ => fun
  | [d1, d2] => { results := [.lit (.bool true)], args := [d1, d2] }
  | _ => none }
def fnExactFairRunRow : OpenClaim := { program := "ytdanpadojemjeaagreat", sum := "f886960024169cd221b849a69552e2c60b7c7d6b679c1c794eea831eaedcaa9d", func := "loop.example/g00973/laws.FnExactFairRun", spec := "fnExactFairRun", inPlace := ["slices.overlaps[loop.example/g00973/impl.Cell]"], unfollowed := true, recurses := true, apart := false }
def FnExactFairRunSaid : Prop := fnExactFairRunRow.holds Tryz.pinned (OpenSpec.ofChange fnExactFairRunSpec)

/-- ITS FALSE NEIGHBOUR: 'it returns false'. Refute it at one input. -/
def fnExactFairRunWrong : ChangeSpec := { name := "fnExactFairRun", fn := fun _ => fun
  | [d1, d2] => { results := [.lit (.bool false)], args := [d1, d2] }
  | _ => none }
def FnExactFairRunWrongFalsely : Prop := fnExactFairRunRow.holds Tryz.pinned (OpenSpec.ofChange fnExactFairRunWrong)

/-- 'laws.FnExactFairResult': WHATEVER THE INPUT: true; the input reads as it did. -/
def fnExactFairResultSpec : ChangeSpec := { name := "fnExactFairResult", fn := fun _ => fun
  | [d1, d2, d3] => { results := [.lit (.bool true)], args := [d1, d2, d3] }
  | _ => none }
def fnExactFairResultRow : OpenClaim := { program := "ytdanpadojemjeaagreat", sum := "f886960024169cd221b849a69552e2c60b7c7d6b679c1c794eea831eaedcaa9d", func := "loop.example/g00973/laws.FnExactFairResult", spec := "fnExactFairResult", inPlace := ["slices.overlaps[loop.example/g00973/impl.Cell]"], unfollowed := true, recurses := true, apart := false }
def FnExactFairResultSaid : Prop := fnExactFairResultRow.holds Tryz.pinned (OpenSpec.ofChange fnExactFairResultSpec)

/-- ITS FALSE NEIGHBOUR: 'it returns false'. Refute it at one input. -/
def fnExactFairResultWrong : ChangeSpec := { name := "fnExactFairResult", fn := fun _ => fun
  | [d1, d2, d3] => { results := [.lit (.bool false)], args := [d1, d2, d3] }
  | _ => none }
def FnExactFairResultWrongFalsely : Prop := fnExactFairResultRow.holds Tryz.pinned (OpenSpec.ofChange fnExactFairResultWrong)

/- THE SECOND FORM. 'bulk': how many values and letters a reading holds, each counted each time it is reached (what is shared counts as often as it is met; a slice's spare places count too). A statement '..UptoSaid' is the law's where the arguments, and the package variables that the reading takes, are together of bulk at most 1048576: NARROWER than '..Said'. Prove '..Said' where nothing that the law and all that it calls make is longer than what came in: it says more and counts as full. Else prove '..UptoSaid'. A law counts once. -/
mutual
def uptoBulk {H : Type} : DataW H → Nat
  | .lit (.string bytes) => bytes.length + 1
  | .lit _ => 1
  | .nil => 1
  | .ptr d => uptoBulk d + 1
  | .slice elems spare => uptoBulkAll elems + uptoBulkAll spare + 1
  | .agg parts => uptoBulkAll parts + 1
  | .iface _ d => uptoBulk d + 1
  | .map entries => uptoBulkEntries entries + 1
  | .held _ => 1
def uptoBulkAll {H : Type} : List (DataW H) → Nat
  | [] => 0
  | d :: r => uptoBulk d + uptoBulkAll r
def uptoBulkEntries {H : Type} : List (Lit × DataW H) → Nat
  | [] => 0
  | x :: r => uptoBulkEntry x + uptoBulkEntries r
def uptoBulkEntry {H : Type} : Lit × DataW H → Nat
  | (.string bytes, d) => bytes.length + uptoBulk d + 1
  | (_, d) => uptoBulk d + 1
 end
def uptoSmall : (H : Type) → List (DataW H) → Bool := fun _ ds => decide (uptoBulkAll ds ≤ 1048576)
def OpenSpec.upto (s : _root_.Go.ChangeSpec) : _root_.Go.OpenSpec := { _root_.Go.OpenSpec.ofChange s with cond := some uptoSmall }

/-- 'laws.FnExactHearNews', WHERE WHAT IT READS IS OF BULK AT MOST 1048576: true; the input reads as it did. -/
def fnExactHearNewsUptoRow : OpenClaim := { program := "ytdanpadojemjeaagreat", sum := "f886960024169cd221b849a69552e2c60b7c7d6b679c1c794eea831eaedcaa9d", func := "loop.example/g00973/laws.FnExactHearNews", spec := "fnExactHearNews", unfollowed := true, recurses := true, apart := false, narrowed := true }
def FnExactHearNewsUptoSaid : Prop := fnExactHearNewsUptoRow.holds Tryz.pinned (OpenSpec.upto fnExactHearNewsSpec)

/-- 'laws.FnExactTokenStep', WHERE WHAT IT READS IS OF BULK AT MOST 1048576: true; the input reads as it did. -/
def fnExactTokenStepUptoRow : OpenClaim := { program := "ytdanpadojemjeaagreat", sum := "f886960024169cd221b849a69552e2c60b7c7d6b679c1c794eea831eaedcaa9d", func := "loop.example/g00973/laws.FnExactTokenStep", spec := "fnExactTokenStep", unfollowed := true, recurses := true, apart := false, narrowed := true }
def FnExactTokenStepUptoSaid : Prop := fnExactTokenStepUptoRow.holds Tryz.pinned (OpenSpec.upto fnExactTokenStepSpec)

/-- 'laws.FnExactCanMove', WHERE WHAT IT READS IS OF BULK AT MOST 1048576: true; the input reads as it did. -/
def fnExactCanMoveUptoRow : OpenClaim := { program := "ytdanpadojemjeaagreat", sum := "f886960024169cd221b849a69552e2c60b7c7d6b679c1c794eea831eaedcaa9d", func := "loop.example/g00973/laws.FnExactCanMove", spec := "fnExactCanMove", inPlace := ["slices.overlaps[loop.example/g00973/impl.Cell]"], unfollowed := true, recurses := true, apart := false, narrowed := true }
def FnExactCanMoveUptoSaid : Prop := fnExactCanMoveUptoRow.holds Tryz.pinned (OpenSpec.upto fnExactCanMoveSpec)

/-- 'laws.FnExactStepPick', WHERE WHAT IT READS IS OF BULK AT MOST 1048576: true; the input reads as it did. -/
def fnExactStepPickUptoRow : OpenClaim := { program := "ytdanpadojemjeaagreat", sum := "f886960024169cd221b849a69552e2c60b7c7d6b679c1c794eea831eaedcaa9d", func := "loop.example/g00973/laws.FnExactStepPick", spec := "fnExactStepPick", inPlace := ["slices.overlaps[loop.example/g00973/impl.Cell]"], unfollowed := true, recurses := true, apart := false, narrowed := true }
def FnExactStepPickUptoSaid : Prop := fnExactStepPickUptoRow.holds Tryz.pinned (OpenSpec.upto fnExactStepPickSpec)

/-- 'laws.FnExactRunPicks', WHERE WHAT IT READS IS OF BULK AT MOST 1048576: true; the input reads as it did. -/
def fnExactRunPicksUptoRow : OpenClaim := { program := "ytdanpadojemjeaagreat", sum := "f886960024169cd221b849a69552e2c60b7c7d6b679c1c794eea831eaedcaa9d", func := "loop.example/g00973/laws.FnExactRunPicks", spec := "fnExactRunPicks", inPlace := ["slices.overlaps[loop.example/g00973/impl.Cell]"], unfollowed := true, recurses := true, apart := false, narrowed := true }
def FnExactRunPicksUptoSaid : Prop := fnExactRunPicksUptoRow.holds Tryz.pinned (OpenSpec.upto fnExactRunPicksSpec)

/-- 'laws.FnExactFairRound', WHERE WHAT IT READS IS OF BULK AT MOST 1048576: true; the input reads as it did. -/
def fnExactFairRoundUptoRow : OpenClaim := { program := "ytdanpadojemjeaagreat", sum := "f886960024169cd221b849a69552e2c60b7c7d6b679c1c794eea831eaedcaa9d", func := "loop.example/g00973/laws.FnExactFairRound", spec := "fnExactFairRound", inPlace := ["slices.overlaps[loop.example/g00973/impl.Cell]"], unfollowed := true, recurses := true, apart := false, narrowed := true }
def FnExactFairRoundUptoSaid : Prop := fnExactFairRoundUptoRow.holds Tryz.pinned (OpenSpec.upto fnExactFairRoundSpec)

/-- 'laws.FnExactFairRun', WHERE WHAT IT READS IS OF BULK AT MOST 1048576: true; the input reads as it did. -/
def fnExactFairRunUptoRow : OpenClaim := { program := "ytdanpadojemjeaagreat", sum := "f886960024169cd221b849a69552e2c60b7c7d6b679c1c794eea831eaedcaa9d", func := "loop.example/g00973/laws.FnExactFairRun", spec := "fnExactFairRun", inPlace := ["slices.overlaps[loop.example/g00973/impl.Cell]"], unfollowed := true, recurses := true, apart := false, narrowed := true }
def FnExactFairRunUptoSaid : Prop := fnExactFairRunUptoRow.holds Tryz.pinned (OpenSpec.upto fnExactFairRunSpec)

/-- 'laws.FnExactFairResult', WHERE WHAT IT READS IS OF BULK AT MOST 1048576: true; the input reads as it did. -/
def fnExactFairResultUptoRow : OpenClaim := { program := "ytdanpadojemjeaagreat", sum := "f886960024169cd221b849a69552e2c60b7c7d6b679c1c794eea831eaedcaa9d", func := "loop.example/g00973/laws.FnExactFairResult", spec := "fnExactFairResult", inPlace := ["slices.overlaps[loop.example/g00973/impl.Cell]"], unfollowed := true, recurses := true, apart := false, narrowed := true }
def FnExactFairResultUptoSaid : Prop := fnExactFairResultUptoRow.holds Tryz.pinned (OpenSpec.upto fnExactFairResultSpec)

end Rows
end Go.Proofs.YtdanpadojemjeaaGreat
