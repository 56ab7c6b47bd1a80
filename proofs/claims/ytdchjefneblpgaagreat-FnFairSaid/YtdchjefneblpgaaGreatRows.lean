/-
  No cell of these rows narrows 'for every input' (looked for: loops, veiled, ifaces, maps, wideKeys, modest, calm, conditions, laid).
  DERIVED. THE GIVEN ROWS OF THIS SEAT. 9 by the template 'for every input the law returns true; each argument reads behind the call as it read before'; 0 by the template 'total and deterministic' (their statements: YtdchjefneblpgaaGreatTotals.lean).
  GIVEN WITH THE SEED: the statements are not yours to turn. If you find one false, say at which input.
  Laid BY PROGRAM, IN A SANDBOX (cutbox-rows.mjs): the forced cells as the released guide's own fill.sh prints them over the translation 254b858e5fe587bb… (all of the seat's roots in one cut). By AI agents, Wed Nov 11 2026. No macro, syntax, notation, axiom, sorry.
-/
import Derived.Test.YtdchjefneblpgaaGreatChecked
import GoSem.Claim
import GoSem.ClaimJoined
import GoSem.ClaimMapViews
import Derived.JoinedTies
import Derived.KernelRfl
namespace Go.Proofs.YtdchjefneblpgaaGreat
/- THE CELL 'sum', in the pinned program and in every row, IS THE sha256 OF THE DUMP (.gsa) THAT YtdchjefneblpgaaGreatProg.lean LOADS. Nothing in Lean hashes anything: it is a label: what it is worth is what the hold of that sum in a sandbox is worth. -/
noncomputable def Tryz.pinned : Pinned := { name := "ytdchjefneblpgaagreat", sum := "254b858e5fe587bb494e5ac1c3c94280c887e2b155b6334dd0421a0f42973062", checked := Tryz.checked }
namespace Rows
def none {H : Type} : Left H := { results := [], args := [] }

/-- 'laws.FnRight': WHATEVER THE INPUT: true; the input reads as it did. -/
def fnRightSpec : ChangeSpec := { name := "fnRight", fn := fun _ => fun
  | [d] => { results := [.lit (.bool true)], args := [d] }
  | _ => none }
def fnRightRow : OpenClaim := { program := "ytdchjefneblpgaagreat", sum := "254b858e5fe587bb494e5ac1c3c94280c887e2b155b6334dd0421a0f42973062", func := "loop.example/g00973/laws.FnRight", spec := "fnRight", inPlace := ["slices.overlaps[loop.example/g00973/impl.Cell]"], unfollowed := true, recurses := true, apart := false }
def FnRightSaid : Prop := fnRightRow.holds Tryz.pinned (OpenSpec.ofChange fnRightSpec)

/-- ITS FALSE NEIGHBOUR: 'it returns false'. Refute it at one input. -/
def fnRightWrong : ChangeSpec := { name := "fnRight", fn := fun _ => fun
  | [d] => { results := [.lit (.bool false)], args := [d] }
  | _ => none }
def FnRightWrongFalsely : Prop := fnRightRow.holds Tryz.pinned (OpenSpec.ofChange fnRightWrong)

/-- 'laws.FnMoved': WHATEVER THE INPUT: true; the input reads as it did. -/
def fnMovedSpec : ChangeSpec := { name := "fnMoved", fn := fun _ => fun
  | [d] => { results := [.lit (.bool true)], args := [d] }
  | _ => none }
def fnMovedRow : OpenClaim := { program := "ytdchjefneblpgaagreat", sum := "254b858e5fe587bb494e5ac1c3c94280c887e2b155b6334dd0421a0f42973062", func := "loop.example/g00973/laws.FnMoved", spec := "fnMoved", unfollowed := true, recurses := true, apart := false }
def FnMovedSaid : Prop := fnMovedRow.holds Tryz.pinned (OpenSpec.ofChange fnMovedSpec)

/-- ITS FALSE NEIGHBOUR: 'it returns false'. Refute it at one input. -/
def fnMovedWrong : ChangeSpec := { name := "fnMoved", fn := fun _ => fun
  | [d] => { results := [.lit (.bool false)], args := [d] }
  | _ => none }
def FnMovedWrongFalsely : Prop := fnMovedRow.holds Tryz.pinned (OpenSpec.ofChange fnMovedWrong)

/-- 'laws.FnAgree': WHATEVER THE INPUT: true; the input reads as it did. -/
def fnAgreeSpec : ChangeSpec := { name := "fnAgree", fn := fun _ => fun
  | [d] => { results := [.lit (.bool true)], args := [d] }
  | _ => none }
def fnAgreeRow : OpenClaim := { program := "ytdchjefneblpgaagreat", sum := "254b858e5fe587bb494e5ac1c3c94280c887e2b155b6334dd0421a0f42973062", func := "loop.example/g00973/laws.FnAgree", spec := "fnAgree", inPlace := ["slices.overlaps[loop.example/g00973/impl.Cell]"], unfollowed := true, recurses := true, apart := false }
def FnAgreeSaid : Prop := fnAgreeRow.holds Tryz.pinned (OpenSpec.ofChange fnAgreeSpec)

/-- ITS FALSE NEIGHBOUR: 'it returns false'. Refute it at one input. -/
def fnAgreeWrong : ChangeSpec := { name := "fnAgree", fn := fun _ => fun
  | [d] => { results := [.lit (.bool false)], args := [d] }
  | _ => none }
def FnAgreeWrongFalsely : Prop := fnAgreeRow.holds Tryz.pinned (OpenSpec.ofChange fnAgreeWrong)

/-- 'laws.FnWorked': WHATEVER THE INPUT: true; the input reads as it did. -/
def fnWorkedSpec : ChangeSpec := { name := "fnWorked", fn := fun _ => fun
  | [d] => { results := [.lit (.bool true)], args := [d] }
  | _ => none }
def fnWorkedRow : OpenClaim := { program := "ytdchjefneblpgaagreat", sum := "254b858e5fe587bb494e5ac1c3c94280c887e2b155b6334dd0421a0f42973062", func := "loop.example/g00973/laws.FnWorked", spec := "fnWorked", inPlace := ["slices.overlaps[loop.example/g00973/impl.Cell]"], unfollowed := true, recurses := true, apart := false }
def FnWorkedSaid : Prop := fnWorkedRow.holds Tryz.pinned (OpenSpec.ofChange fnWorkedSpec)

/-- ITS FALSE NEIGHBOUR: 'it returns false'. Refute it at one input. -/
def fnWorkedWrong : ChangeSpec := { name := "fnWorked", fn := fun _ => fun
  | [d] => { results := [.lit (.bool false)], args := [d] }
  | _ => none }
def FnWorkedWrongFalsely : Prop := fnWorkedRow.holds Tryz.pinned (OpenSpec.ofChange fnWorkedWrong)

/-- 'laws.FnClusters': WHATEVER THE INPUT: true; the input reads as it did. -/
def fnClustersSpec : ChangeSpec := { name := "fnClusters", fn := fun _ => fun
  | [d] => { results := [.lit (.bool true)], args := [d] }
  | _ => none }
def fnClustersRow : OpenClaim := { program := "ytdchjefneblpgaagreat", sum := "254b858e5fe587bb494e5ac1c3c94280c887e2b155b6334dd0421a0f42973062", func := "loop.example/g00973/laws.FnClusters", spec := "fnClusters", unfollowed := true, recurses := true, apart := false }
def FnClustersSaid : Prop := fnClustersRow.holds Tryz.pinned (OpenSpec.ofChange fnClustersSpec)

/-- ITS FALSE NEIGHBOUR: 'it returns false'. Refute it at one input. -/
def fnClustersWrong : ChangeSpec := { name := "fnClusters", fn := fun _ => fun
  | [d] => { results := [.lit (.bool false)], args := [d] }
  | _ => none }
def FnClustersWrongFalsely : Prop := fnClustersRow.holds Tryz.pinned (OpenSpec.ofChange fnClustersWrong)

/-- 'laws.FnFair': WHATEVER THE INPUT: true; the input reads as it did. -/
def fnFairSpec : ChangeSpec := { name := "fnFair", fn := fun _ => fun
  | [d] => { results := [.lit (.bool true)], args := [d] }
  | _ => none }
def fnFairRow : OpenClaim := { program := "ytdchjefneblpgaagreat", sum := "254b858e5fe587bb494e5ac1c3c94280c887e2b155b6334dd0421a0f42973062", func := "loop.example/g00973/laws.FnFair", spec := "fnFair", inPlace := ["slices.overlaps[loop.example/g00973/impl.Cell]"], unfollowed := true, recurses := true, apart := false }
def FnFairSaid : Prop := fnFairRow.holds Tryz.pinned (OpenSpec.ofChange fnFairSpec)

/-- ITS FALSE NEIGHBOUR: 'it returns false'. Refute it at one input. -/
def fnFairWrong : ChangeSpec := { name := "fnFair", fn := fun _ => fun
  | [d] => { results := [.lit (.bool false)], args := [d] }
  | _ => none }
def FnFairWrongFalsely : Prop := fnFairRow.holds Tryz.pinned (OpenSpec.ofChange fnFairWrong)

/-- 'laws.FnSafely': WHATEVER THE INPUT: true; the input reads as it did. -/
def fnSafelySpec : ChangeSpec := { name := "fnSafely", fn := fun _ => fun
  | [d] => { results := [.lit (.bool true)], args := [d] }
  | _ => none }
def fnSafelyRow : OpenClaim := { program := "ytdchjefneblpgaagreat", sum := "254b858e5fe587bb494e5ac1c3c94280c887e2b155b6334dd0421a0f42973062", func := "loop.example/g00973/laws.FnSafely", spec := "fnSafely", inPlace := ["slices.overlaps[loop.example/g00973/impl.Cell]"], unfollowed := true, recurses := true, apart := false }
def FnSafelySaid : Prop := fnSafelyRow.holds Tryz.pinned (OpenSpec.ofChange fnSafelySpec)

/-- ITS FALSE NEIGHBOUR: 'it returns false'. Refute it at one input. -/
def fnSafelyWrong : ChangeSpec := { name := "fnSafely", fn := fun _ => fun
  | [d] => { results := [.lit (.bool false)], args := [d] }
  | _ => none }
def FnSafelyWrongFalsely : Prop := fnSafelyRow.holds Tryz.pinned (OpenSpec.ofChange fnSafelyWrong)

/-- 'laws.FnRefined': WHATEVER THE INPUT: true; the input reads as it did. -/
def fnRefinedSpec : ChangeSpec := { name := "fnRefined", fn := fun _ => fun
  | [d] => { results := [.lit (.bool true)], args := [d] }
  | _ => none }
def fnRefinedRow : OpenClaim := { program := "ytdchjefneblpgaagreat", sum := "254b858e5fe587bb494e5ac1c3c94280c887e2b155b6334dd0421a0f42973062", func := "loop.example/g00973/laws.FnRefined", spec := "fnRefined", inPlace := ["slices.overlaps[loop.example/g00973/impl.Cell]"], unfollowed := true, recurses := true, apart := false }
def FnRefinedSaid : Prop := fnRefinedRow.holds Tryz.pinned (OpenSpec.ofChange fnRefinedSpec)

/-- ITS FALSE NEIGHBOUR: 'it returns false'. Refute it at one input. -/
def fnRefinedWrong : ChangeSpec := { name := "fnRefined", fn := fun _ => fun
  | [d] => { results := [.lit (.bool false)], args := [d] }
  | _ => none }
def FnRefinedWrongFalsely : Prop := fnRefinedRow.holds Tryz.pinned (OpenSpec.ofChange fnRefinedWrong)

/-- 'laws.FnPending': WHATEVER THE INPUT: true; the input reads as it did. -/
def fnPendingSpec : ChangeSpec := { name := "fnPending", fn := fun _ => fun
  | [d] => { results := [.lit (.bool true)], args := [d] }
  | _ => none }
def fnPendingRow : OpenClaim := { program := "ytdchjefneblpgaagreat", sum := "254b858e5fe587bb494e5ac1c3c94280c887e2b155b6334dd0421a0f42973062", func := "loop.example/g00973/laws.FnPending", spec := "fnPending", inPlace := ["slices.overlaps[loop.example/g00973/impl.Cell]"], unfollowed := true, recurses := true, apart := false }
def FnPendingSaid : Prop := fnPendingRow.holds Tryz.pinned (OpenSpec.ofChange fnPendingSpec)

/-- ITS FALSE NEIGHBOUR: 'it returns false'. Refute it at one input. -/
def fnPendingWrong : ChangeSpec := { name := "fnPending", fn := fun _ => fun
  | [d] => { results := [.lit (.bool false)], args := [d] }
  | _ => none }
def FnPendingWrongFalsely : Prop := fnPendingRow.holds Tryz.pinned (OpenSpec.ofChange fnPendingWrong)

/- THE SECOND FORM. 'bulk': how many values and letters a reading holds, each counted each time it is reached (what is shared counts as often as it is met; a slice's spare places count too). A statement '..UptoSaid' is the law's where the arguments, and the package variables that the reading takes, are together of bulk at most 1048576: NARROWER than '..Said'. Prove '..Said' where nothing that the law and all that it calls make is longer than what came in: it says more and counts as full. Else prove '..UptoSaid'. A law counts once. -/
mutual
def uptoBulk {H : Type} : DataW H → Nat
  | .lit (.string bytes) => bytes.length + 1
  | .lit _ => 1
  | .nil => 1
  | .ptr d => uptoBulk d + 1
  | .slice elems spare => uptoBulkAll elems + uptoBulkAll spare + 1
  | .agg parts => uptoBulkAll parts + 1
  | .iface _ d => uptoBulk d + 1
  | .map entries => uptoBulkEntries entries + 1
  | .held _ => 1
def uptoBulkAll {H : Type} : List (DataW H) → Nat
  | [] => 0
  | d :: r => uptoBulk d + uptoBulkAll r
def uptoBulkEntries {H : Type} : List (Lit × DataW H) → Nat
  | [] => 0
  | x :: r => uptoBulkEntry x + uptoBulkEntries r
def uptoBulkEntry {H : Type} : Lit × DataW H → Nat
  | (.string bytes, d) => bytes.length + uptoBulk d + 1
  | (_, d) => uptoBulk d + 1
 end
def uptoSmall : (H : Type) → List (DataW H) → Bool := fun _ ds => decide (uptoBulkAll ds ≤ 1048576)
def OpenSpec.upto (s : _root_.Go.ChangeSpec) : _root_.Go.OpenSpec := { _root_.Go.OpenSpec.ofChange s with cond := some uptoSmall }

/-- 'laws.FnRight', WHERE WHAT IT READS IS OF BULK AT MOST 1048576: true; the input reads as it did. -/
def fnRightUptoRow : OpenClaim := { program := "ytdchjefneblpgaagreat", sum := "254b858e5fe587bb494e5ac1c3c94280c887e2b155b6334dd0421a0f42973062", func := "loop.example/g00973/laws.FnRight", spec := "fnRight", inPlace := ["slices.overlaps[loop.example/g00973/impl.Cell]"], unfollowed := true, recurses := true, apart := false, narrowed := true }
def FnRightUptoSaid : Prop := fnRightUptoRow.holds Tryz.pinned (OpenSpec.upto fnRightSpec)

/-- 'laws.FnMoved', WHERE WHAT IT READS IS OF BULK AT MOST 1048576: true; the input reads as it did. -/
def fnMovedUptoRow : OpenClaim := { program := "ytdchjefneblpgaagreat", sum := "254b858e5fe587bb494e5ac1c3c94280c887e2b155b6334dd0421a0f42973062", func := "loop.example/g00973/laws.FnMoved", spec := "fnMoved", unfollowed := true, recurses := true, apart := false, narrowed := true }
def FnMovedUptoSaid : Prop := fnMovedUptoRow.holds Tryz.pinned (OpenSpec.upto fnMovedSpec)

/-- 'laws.FnAgree', WHERE WHAT IT READS IS OF BULK AT MOST 1048576: true; the input reads as it did. -/
def fnAgreeUptoRow : OpenClaim := { program := "ytdchjefneblpgaagreat", sum := "254b858e5fe587bb494e5ac1c3c94280c887e2b155b6334dd0421a0f42973062", func := "loop.example/g00973/laws.FnAgree", spec := "fnAgree", inPlace := ["slices.overlaps[loop.example/g00973/impl.Cell]"], unfollowed := true, recurses := true, apart := false, narrowed := true }
def FnAgreeUptoSaid : Prop := fnAgreeUptoRow.holds Tryz.pinned (OpenSpec.upto fnAgreeSpec)

/-- 'laws.FnWorked', WHERE WHAT IT READS IS OF BULK AT MOST 1048576: true; the input reads as it did. -/
def fnWorkedUptoRow : OpenClaim := { program := "ytdchjefneblpgaagreat", sum := "254b858e5fe587bb494e5ac1c3c94280c887e2b155b6334dd0421a0f42973062", func := "loop.example/g00973/laws.FnWorked", spec := "fnWorked", inPlace := ["slices.overlaps[loop.example/g00973/impl.Cell]"], unfollowed := true, recurses := true, apart := false, narrowed := true }
def FnWorkedUptoSaid : Prop := fnWorkedUptoRow.holds Tryz.pinned (OpenSpec.upto fnWorkedSpec)

/-- 'laws.FnClusters', WHERE WHAT IT READS IS OF BULK AT MOST 1048576: true; the input reads as it did. -/
def fnClustersUptoRow : OpenClaim := { program := "ytdchjefneblpgaagreat", sum := "254b858e5fe587bb494e5ac1c3c94280c887e2b155b6334dd0421a0f42973062", func := "loop.example/g00973/laws.FnClusters", spec := "fnClusters", unfollowed := true, recurses := true, apart := false, narrowed := true }
def FnClustersUptoSaid : Prop := fnClustersUptoRow.holds Tryz.pinned (OpenSpec.upto fnClustersSpec)

/-- 'laws.FnFair', WHERE WHAT IT READS IS OF BULK AT MOST 1048576: true; the input reads as it did. -/
def fnFairUptoRow : OpenClaim := { program := "ytdchjefneblpgaagreat", sum := "254b858e5fe587bb494e5ac1c3c94280c887e2b155b6334dd0421a0f42973062", func := "loop.example/g00973/laws.FnFair", spec := "fnFair", inPlace := ["slices.overlaps[loop.example/g00973/impl.Cell]"], unfollowed := true, recurses := true, apart := false, narrowed := true }
def FnFairUptoSaid : Prop := fnFairUptoRow.holds Tryz.pinned (OpenSpec.upto fnFairSpec)

/-- 'laws.FnSafely', WHERE WHAT IT READS IS OF BULK AT MOST 1048576: true; the input reads as it did. -/
def fnSafelyUptoRow : OpenClaim := { program := "ytdchjefneblpgaagreat", sum := "254b858e5fe587bb494e5ac1c3c94280c887e2b155b6334dd0421a0f42973062", func := "loop.example/g00973/laws.FnSafely", spec := "fnSafely", inPlace := ["slices.overlaps[loop.example/g00973/impl.Cell]"], unfollowed := true, recurses := true, apart := false, narrowed := true }
def FnSafelyUptoSaid : Prop := fnSafelyUptoRow.holds Tryz.pinned (OpenSpec.upto fnSafelySpec)

/-- 'laws.FnRefined', WHERE WHAT IT READS IS OF BULK AT MOST 1048576: true; the input reads as it did. -/
def fnRefinedUptoRow : OpenClaim := { program := "ytdchjefneblpgaagreat", sum := "254b858e5fe587bb494e5ac1c3c94280c887e2b155b6334dd0421a0f42973062", func := "loop.example/g00973/laws.FnRefined", spec := "fnRefined", inPlace := ["slices.overlaps[loop.example/g00973/impl.Cell]"], unfollowed := true, recurses := true, apart := false, narrowed := true }
def FnRefinedUptoSaid : Prop := fnRefinedUptoRow.holds Tryz.pinned (OpenSpec.upto fnRefinedSpec)

/-- 'laws.FnPending', WHERE WHAT IT READS IS OF BULK AT MOST 1048576: true; the input reads as it did. -/
def fnPendingUptoRow : OpenClaim := { program := "ytdchjefneblpgaagreat", sum := "254b858e5fe587bb494e5ac1c3c94280c887e2b155b6334dd0421a0f42973062", func := "loop.example/g00973/laws.FnPending", spec := "fnPending", inPlace := ["slices.overlaps[loop.example/g00973/impl.Cell]"], unfollowed := true, recurses := true, apart := false, narrowed := true }
def FnPendingUptoSaid : Prop := fnPendingUptoRow.holds Tryz.pinned (OpenSpec.upto fnPendingSpec)

end Rows
end Go.Proofs.YtdchjefneblpgaaGreat
