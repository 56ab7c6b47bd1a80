/-
  No cell of these rows narrows 'for every input' (looked for: loops, veiled, ifaces, maps, wideKeys, modest, calm, conditions, laid).
  DERIVED. THE GIVEN ROWS OF THIS SEAT. 12 by the template 'for every input the law returns true; each argument reads behind the call as it read before'; 0 by the template 'total and deterministic' (their statements: YtcdpehhhkfdoaaaTotals.lean).
  GIVEN WITH THE SEED: the statements are not yours to turn. If you find one false, say at which input.
  Laid BY PROGRAM, IN A SANDBOX (cutbox-rows.mjs): the forced cells as the released guide's own fill.sh prints them over the translation ba73d9ebbf3a3c09… (all of the seat's roots in one cut). By AI agents, Wed Nov 11 2026. No macro, syntax, notation, axiom, sorry.
-/
import Derived.Test.YtcdpehhhkfdoaaaChecked
import GoSem.Claim
import GoSem.ClaimJoined
import GoSem.ClaimMapViews
import Derived.JoinedTies
import Derived.KernelRfl
namespace Go.Proofs.Ytcdpehhhkfdoaaa
/- THE CELL 'sum', in the pinned program and in every row, IS THE sha256 OF THE DUMP (.gsa) THAT YtcdpehhhkfdoaaaProg.lean LOADS. Nothing in Lean hashes anything: it is a label: what it is worth is what the hold of that sum in a sandbox is worth. -/
noncomputable def Try.pinned : Pinned := { name := "ytcdpehhhkfdoaaa", sum := "ba73d9ebbf3a3c09a3bce9ee6d6ac92f30e4f0a1b53e8fdf62dbb437e6a177f6", checked := Try.checked }
namespace Rows
def none {H : Type} : Left H := { results := [], args := [] }

/-- 'laws.FnExactWithoutOne': WHATEVER THE INPUT: true; the input reads as it did. -/
def fnExactWithoutOneSpec : ChangeSpec := { name := "fnExactWithoutOne", fn := fun _ => fun
  | [d1, d2] => { results := [.lit (.bool true)], args := [d1, d2] }
  | _ => none }
def fnExactWithoutOneRow : OpenClaim := { program := "ytcdpehhhkfdoaaa", sum := "ba73d9ebbf3a3c09a3bce9ee6d6ac92f30e4f0a1b53e8fdf62dbb437e6a177f6", func := "loop.example/g00973/laws.FnExactWithoutOne", spec := "fnExactWithoutOne", apart := false }
def FnExactWithoutOneSaid : Prop := fnExactWithoutOneRow.holds Try.pinned (OpenSpec.ofChange fnExactWithoutOneSpec)

/-- ITS FALSE NEIGHBOUR: 'it returns false'. Refute it at one input. -/
def fnExactWithoutOneWrong : ChangeSpec := { name := "fnExactWithoutOne", fn := fun _ => fun
  | [d1, d2] => { results := [.lit (.bool false)], args := [d1, d2] }
  | _ => none }
def FnExactWithoutOneWrongFalsely : Prop := fnExactWithoutOneRow.holds Try.pinned (OpenSpec.ofChange fnExactWithoutOneWrong)

/-- 'laws.FnExactDoneOf': WHATEVER THE INPUT: true; the input reads as it did. -/
def fnExactDoneOfSpec : ChangeSpec := { name := "fnExactDoneOf", fn := fun _ => fun
  | [d1, d2] => { results := [.lit (.bool true)], args := [d1, d2] }
  | _ => none }
def fnExactDoneOfRow : OpenClaim := { program := "ytcdpehhhkfdoaaa", sum := "ba73d9ebbf3a3c09a3bce9ee6d6ac92f30e4f0a1b53e8fdf62dbb437e6a177f6", func := "loop.example/g00973/laws.FnExactDoneOf", spec := "fnExactDoneOf", apart := false }
def FnExactDoneOfSaid : Prop := fnExactDoneOfRow.holds Try.pinned (OpenSpec.ofChange fnExactDoneOfSpec)

/-- ITS FALSE NEIGHBOUR: 'it returns false'. Refute it at one input. -/
def fnExactDoneOfWrong : ChangeSpec := { name := "fnExactDoneOf", fn := fun _ => fun
  | [d1, d2] => { results := [.lit (.bool false)], args := [d1, d2] }
  | _ => none }
def FnExactDoneOfWrongFalsely : Prop := fnExactDoneOfRow.holds Try.pinned (OpenSpec.ofChange fnExactDoneOfWrong)

/-- 'laws.FnExactCreditsIn': WHATEVER THE INPUT: true; the input reads as it did. -/
def fnExactCreditsInSpec : ChangeSpec := { name := "fnExactCreditsIn", fn := fun _ => fun
  | [d] => { results := [.lit (.bool true)], args := [d] }
  | _ => none }
def fnExactCreditsInRow : OpenClaim := { program := "ytcdpehhhkfdoaaa", sum := "ba73d9ebbf3a3c09a3bce9ee6d6ac92f30e4f0a1b53e8fdf62dbb437e6a177f6", func := "loop.example/g00973/laws.FnExactCreditsIn", spec := "fnExactCreditsIn", apart := false }
def FnExactCreditsInSaid : Prop := fnExactCreditsInRow.holds Try.pinned (OpenSpec.ofChange fnExactCreditsInSpec)

/-- ITS FALSE NEIGHBOUR: 'it returns false'. Refute it at one input. -/
def fnExactCreditsInWrong : ChangeSpec := { name := "fnExactCreditsIn", fn := fun _ => fun
  | [d] => { results := [.lit (.bool false)], args := [d] }
  | _ => none }
def FnExactCreditsInWrongFalsely : Prop := fnExactCreditsInRow.holds Try.pinned (OpenSpec.ofChange fnExactCreditsInWrong)

/-- 'laws.FnExactCreditsOk': WHATEVER THE INPUT: true; the input reads as it did. -/
def fnExactCreditsOkSpec : ChangeSpec := { name := "fnExactCreditsOk", fn := fun _ => fun
  | [d] => { results := [.lit (.bool true)], args := [d] }
  | _ => none }
def fnExactCreditsOkRow : OpenClaim := { program := "ytcdpehhhkfdoaaa", sum := "ba73d9ebbf3a3c09a3bce9ee6d6ac92f30e4f0a1b53e8fdf62dbb437e6a177f6", func := "loop.example/g00973/laws.FnExactCreditsOk", spec := "fnExactCreditsOk", apart := false }
def FnExactCreditsOkSaid : Prop := fnExactCreditsOkRow.holds Try.pinned (OpenSpec.ofChange fnExactCreditsOkSpec)

/-- ITS FALSE NEIGHBOUR: 'it returns false'. Refute it at one input. -/
def fnExactCreditsOkWrong : ChangeSpec := { name := "fnExactCreditsOk", fn := fun _ => fun
  | [d] => { results := [.lit (.bool false)], args := [d] }
  | _ => none }
def FnExactCreditsOkWrongFalsely : Prop := fnExactCreditsOkRow.holds Try.pinned (OpenSpec.ofChange fnExactCreditsOkWrong)

/-- 'laws.FnExactRoundsDone': WHATEVER THE INPUT: true; the input reads as it did. -/
def fnExactRoundsDoneSpec : ChangeSpec := { name := "fnExactRoundsDone", fn := fun _ => fun
  | [d1, d2] => { results := [.lit (.bool true)], args := [d1, d2] }
  | _ => none }
def fnExactRoundsDoneRow : OpenClaim := { program := "ytcdpehhhkfdoaaa", sum := "ba73d9ebbf3a3c09a3bce9ee6d6ac92f30e4f0a1b53e8fdf62dbb437e6a177f6", func := "loop.example/g00973/laws.FnExactRoundsDone", spec := "fnExactRoundsDone", unfollowed := true, recurses := true, apart := false }
def FnExactRoundsDoneSaid : Prop := fnExactRoundsDoneRow.holds Try.pinned (OpenSpec.ofChange fnExactRoundsDoneSpec)

/-- ITS FALSE NEIGHBOUR: 'it returns false'. Refute it at one input. -/
def fnExactRoundsDoneWrong : ChangeSpec := { name := "fnExactRoundsDone", fn := fun _ => fun
  | [d1, d2] => { results := [.lit (.bool false)], args := [d1, d2] }
  | _ => none }
def FnExactRoundsDoneWrongFalsely : Prop := fnExactRoundsDoneRow.holds Try.pinned (OpenSpec.ofChange fnExactRoundsDoneWrong)

/-- 'laws.FnExactAllDone': WHATEVER THE INPUT: true; the input reads as it did. -/
def fnExactAllDoneSpec : ChangeSpec := { name := "fnExactAllDone", fn := fun _ => fun
  | [d1, d2] => { results := [.lit (.bool true)], args := [d1, d2] }
  | _ => none }
def fnExactAllDoneRow : OpenClaim := { program := "ytcdpehhhkfdoaaa", sum := "ba73d9ebbf3a3c09a3bce9ee6d6ac92f30e4f0a1b53e8fdf62dbb437e6a177f6", func := "loop.example/g00973/laws.FnExactAllDone", spec := "fnExactAllDone", unfollowed := true, recurses := true, apart := false }
def FnExactAllDoneSaid : Prop := fnExactAllDoneRow.holds Try.pinned (OpenSpec.ofChange fnExactAllDoneSpec)

/-- ITS FALSE NEIGHBOUR: 'it returns false'. Refute it at one input. -/
def fnExactAllDoneWrong : ChangeSpec := { name := "fnExactAllDone", fn := fun _ => fun
  | [d1, d2] => { results := [.lit (.bool false)], args := [d1, d2] }
  | _ => none }
def FnExactAllDoneWrongFalsely : Prop := fnExactAllDoneRow.holds Try.pinned (OpenSpec.ofChange fnExactAllDoneWrong)

/-- 'laws.FnExactConsumed': WHATEVER THE INPUT: true; the input reads as it did. -/
def fnExactConsumedSpec : ChangeSpec := { name := "fnExactConsumed", fn := fun _ => fun
  | [d1, d2] => { results := [.lit (.bool true)], args := [d1, d2] }
  | _ => none }
def fnExactConsumedRow : OpenClaim := { program := "ytcdpehhhkfdoaaa", sum := "ba73d9ebbf3a3c09a3bce9ee6d6ac92f30e4f0a1b53e8fdf62dbb437e6a177f6", func := "loop.example/g00973/laws.FnExactConsumed", spec := "fnExactConsumed", apart := false }
def FnExactConsumedSaid : Prop := fnExactConsumedRow.holds Try.pinned (OpenSpec.ofChange fnExactConsumedSpec)

/-- ITS FALSE NEIGHBOUR: 'it returns false'. Refute it at one input. -/
def fnExactConsumedWrong : ChangeSpec := { name := "fnExactConsumed", fn := fun _ => fun
  | [d1, d2] => { results := [.lit (.bool false)], args := [d1, d2] }
  | _ => none }
def FnExactConsumedWrongFalsely : Prop := fnExactConsumedRow.holds Try.pinned (OpenSpec.ofChange fnExactConsumedWrong)

/-- 'laws.FnExactEpochsDone': WHATEVER THE INPUT: true; the input reads as it did. -/
def fnExactEpochsDoneSpec : ChangeSpec := { name := "fnExactEpochsDone", fn := fun _ => fun
  | [d] => { results := [.lit (.bool true)], args := [d] }
  | _ => none }
def fnExactEpochsDoneRow : OpenClaim := { program := "ytcdpehhhkfdoaaa", sum := "ba73d9ebbf3a3c09a3bce9ee6d6ac92f30e4f0a1b53e8fdf62dbb437e6a177f6", func := "loop.example/g00973/laws.FnExactEpochsDone", spec := "fnExactEpochsDone", unfollowed := true, recurses := true, apart := false }
def FnExactEpochsDoneSaid : Prop := fnExactEpochsDoneRow.holds Try.pinned (OpenSpec.ofChange fnExactEpochsDoneSpec)

/-- ITS FALSE NEIGHBOUR: 'it returns false'. Refute it at one input. -/
def fnExactEpochsDoneWrong : ChangeSpec := { name := "fnExactEpochsDone", fn := fun _ => fun
  | [d] => { results := [.lit (.bool false)], args := [d] }
  | _ => none }
def FnExactEpochsDoneWrongFalsely : Prop := fnExactEpochsDoneRow.holds Try.pinned (OpenSpec.ofChange fnExactEpochsDoneWrong)

/-- 'laws.FnExactSumsOk': WHATEVER THE INPUT: true; the input reads as it did. -/
def fnExactSumsOkSpec : ChangeSpec := { name := "fnExactSumsOk", fn := fun _ => fun
  | [d1, d2] => { results := [.lit (.bool true)], args := [d1, d2] }
  | _ => none }
def fnExactSumsOkRow : OpenClaim := { program := "ytcdpehhhkfdoaaa", sum := "ba73d9ebbf3a3c09a3bce9ee6d6ac92f30e4f0a1b53e8fdf62dbb437e6a177f6", func := "loop.example/g00973/laws.FnExactSumsOk", spec := "fnExactSumsOk", apart := false }
def FnExactSumsOkSaid : Prop := fnExactSumsOkRow.holds Try.pinned (OpenSpec.ofChange fnExactSumsOkSpec)

/-- ITS FALSE NEIGHBOUR: 'it returns false'. Refute it at one input. -/
def fnExactSumsOkWrong : ChangeSpec := { name := "fnExactSumsOk", fn := fun _ => fun
  | [d1, d2] => { results := [.lit (.bool false)], args := [d1, d2] }
  | _ => none }
def FnExactSumsOkWrongFalsely : Prop := fnExactSumsOkRow.holds Try.pinned (OpenSpec.ofChange fnExactSumsOkWrong)

/-- 'laws.FnExactOwnersOk': WHATEVER THE INPUT: true; the input reads as it did. -/
def fnExactOwnersOkSpec : ChangeSpec := { name := "fnExactOwnersOk", fn := fun _ => fun
  | [d] => { results := [.lit (.bool true)], args := [d] }
  | _ => none }
def fnExactOwnersOkRow : OpenClaim := { program := "ytcdpehhhkfdoaaa", sum := "ba73d9ebbf3a3c09a3bce9ee6d6ac92f30e4f0a1b53e8fdf62dbb437e6a177f6", func := "loop.example/g00973/laws.FnExactOwnersOk", spec := "fnExactOwnersOk", unfollowed := true, recurses := true, apart := false }
def FnExactOwnersOkSaid : Prop := fnExactOwnersOkRow.holds Try.pinned (OpenSpec.ofChange fnExactOwnersOkSpec)

/-- ITS FALSE NEIGHBOUR: 'it returns false'. Refute it at one input. -/
def fnExactOwnersOkWrong : ChangeSpec := { name := "fnExactOwnersOk", fn := fun _ => fun
  | [d] => { results := [.lit (.bool false)], args := [d] }
  | _ => none }
def FnExactOwnersOkWrongFalsely : Prop := fnExactOwnersOkRow.holds Try.pinned (OpenSpec.ofChange fnExactOwnersOkWrong)

/-- 'laws.FnExactNewsFor': WHATEVER THE INPUT: true; the input reads as it did. -/
def fnExactNewsForSpec : ChangeSpec := { name := "fnExactNewsFor", fn := fun _ => fun
  | [d1, d2] => { results := [.lit (.bool true)], args := [d1, d2] }
  | _ => none }
def fnExactNewsForRow : OpenClaim := { program := "ytcdpehhhkfdoaaa", sum := "ba73d9ebbf3a3c09a3bce9ee6d6ac92f30e4f0a1b53e8fdf62dbb437e6a177f6", func := "loop.example/g00973/laws.FnExactNewsFor", spec := "fnExactNewsFor", apart := false }
def FnExactNewsForSaid : Prop := fnExactNewsForRow.holds Try.pinned (OpenSpec.ofChange fnExactNewsForSpec)

/-- ITS FALSE NEIGHBOUR: 'it returns false'. Refute it at one input. -/
def fnExactNewsForWrong : ChangeSpec := { name := "fnExactNewsFor", fn := fun _ => fun
  | [d1, d2] => { results := [.lit (.bool false)], args := [d1, d2] }
  | _ => none }
def FnExactNewsForWrongFalsely : Prop := fnExactNewsForRow.holds Try.pinned (OpenSpec.ofChange fnExactNewsForWrong)

/-- 'laws.FnExactCappedIn': WHATEVER THE INPUT: true; the input reads as it did. -/
def fnExactCappedInSpec : ChangeSpec := { name := "fnExactCappedIn", fn := fun _ => fun
  | [d] => { results := [.lit (.bool true)], args := [d] }
  | _ => none }
def fnExactCappedInRow : OpenClaim := { program := "ytcdpehhhkfdoaaa", sum := "ba73d9ebbf3a3c09a3bce9ee6d6ac92f30e4f0a1b53e8fdf62dbb437e6a177f6", func := "loop.example/g00973/laws.FnExactCappedIn", spec := "fnExactCappedIn", apart := false }
def FnExactCappedInSaid : Prop := fnExactCappedInRow.holds Try.pinned (OpenSpec.ofChange fnExactCappedInSpec)

/-- ITS FALSE NEIGHBOUR: 'it returns false'. Refute it at one input. -/
def fnExactCappedInWrong : ChangeSpec := { name := "fnExactCappedIn", fn := fun _ => fun
  | [d] => { results := [.lit (.bool false)], args := [d] }
  | _ => none }
def FnExactCappedInWrongFalsely : Prop := fnExactCappedInRow.holds Try.pinned (OpenSpec.ofChange fnExactCappedInWrong)

/- THE SECOND FORM. 'bulk': how many values and letters a reading holds, each counted each time it is reached (what is shared counts as often as it is met; a slice's spare places count too). A statement '..UptoSaid' is the law's where the arguments, and the package variables that the reading takes, are together of bulk at most 1048576: NARROWER than '..Said'. Prove '..Said' where nothing that the law and all that it calls make is longer than what came in: it says more and counts as full. Else prove '..UptoSaid'. A law counts once. -/
mutual
def uptoBulk {H : Type} : DataW H → Nat
  | .lit (.string bytes) => bytes.length + 1
  | .lit _ => 1
  | .nil => 1
  | .ptr d => uptoBulk d + 1
  | .slice elems spare => uptoBulkAll elems + uptoBulkAll spare + 1
  | .agg parts => uptoBulkAll parts + 1
  | .iface _ d => uptoBulk d + 1
  | .map entries => uptoBulkEntries entries + 1
  | .held _ => 1
def uptoBulkAll {H : Type} : List (DataW H) → Nat
  | [] => 0
  | d :: r => uptoBulk d + uptoBulkAll r
def uptoBulkEntries {H : Type} : List (Lit × DataW H) → Nat
  | [] => 0
  | x :: r => uptoBulkEntry x + uptoBulkEntries r
def uptoBulkEntry {H : Type} : Lit × DataW H → Nat
  | (.string bytes, d) => bytes.length + uptoBulk d + 1
  | (_, d) => uptoBulk d + 1
 end
def uptoSmall : (H : Type) → List (DataW H) → Bool := fun _ ds => decide (uptoBulkAll ds ≤ 1048576)
def OpenSpec.upto (s : _root_.Go.ChangeSpec) : _root_.Go.OpenSpec := { _root_.Go.OpenSpec.ofChange s with cond := some uptoSmall }

/-- 'laws.FnExactWithoutOne', WHERE WHAT IT READS IS OF BULK AT MOST 1048576: true; the input reads as it did. -/
def fnExactWithoutOneUptoRow : OpenClaim := { program := "ytcdpehhhkfdoaaa", sum := "ba73d9ebbf3a3c09a3bce9ee6d6ac92f30e4f0a1b53e8fdf62dbb437e6a177f6", func := "loop.example/g00973/laws.FnExactWithoutOne", spec := "fnExactWithoutOne", apart := false, narrowed := true }
def FnExactWithoutOneUptoSaid : Prop := fnExactWithoutOneUptoRow.holds Try.pinned (OpenSpec.upto fnExactWithoutOneSpec)

/-- 'laws.FnExactDoneOf', WHERE WHAT IT READS IS OF BULK AT MOST 1048576: true; the input reads as it did. -/
def fnExactDoneOfUptoRow : OpenClaim := { program := "ytcdpehhhkfdoaaa", sum := "ba73d9ebbf3a3c09a3bce9ee6d6ac92f30e4f0a1b53e8fdf62dbb437e6a177f6", func := "loop.example/g00973/laws.FnExactDoneOf", spec := "fnExactDoneOf", apart := false, narrowed := true }
def FnExactDoneOfUptoSaid : Prop := fnExactDoneOfUptoRow.holds Try.pinned (OpenSpec.upto fnExactDoneOfSpec)

/-- 'laws.FnExactCreditsIn', WHERE WHAT IT READS IS OF BULK AT MOST 1048576: true; the input reads as it did. -/
def fnExactCreditsInUptoRow : OpenClaim := { program := "ytcdpehhhkfdoaaa", sum := "ba73d9ebbf3a3c09a3bce9ee6d6ac92f30e4f0a1b53e8fdf62dbb437e6a177f6", func := "loop.example/g00973/laws.FnExactCreditsIn", spec := "fnExactCreditsIn", apart := false, narrowed := true }
def FnExactCreditsInUptoSaid : Prop := fnExactCreditsInUptoRow.holds Try.pinned (OpenSpec.upto fnExactCreditsInSpec)

/-- 'laws.FnExactCreditsOk', WHERE WHAT IT READS IS OF BULK AT MOST 1048576: true; the input reads as it did. -/
def fnExactCreditsOkUptoRow : OpenClaim := { program := "ytcdpehhhkfdoaaa", sum := "ba73d9ebbf3a3c09a3bce9ee6d6ac92f30e4f0a1b53e8fdf62dbb437e6a177f6", func := "loop.example/g00973/laws.FnExactCreditsOk", spec := "fnExactCreditsOk", apart := false, narrowed := true }
def FnExactCreditsOkUptoSaid : Prop := fnExactCreditsOkUptoRow.holds Try.pinned (OpenSpec.upto fnExactCreditsOkSpec)

/-- 'laws.FnExactRoundsDone', WHERE WHAT IT READS IS OF BULK AT MOST 1048576: true; the input reads as it did. -/
def fnExactRoundsDoneUptoRow : OpenClaim := { program := "ytcdpehhhkfdoaaa", sum := "ba73d9ebbf3a3c09a3bce9ee6d6ac92f30e4f0a1b53e8fdf62dbb437e6a177f6", func := "loop.example/g00973/laws.FnExactRoundsDone", spec := "fnExactRoundsDone", unfollowed := true, recurses := true, apart := false, narrowed := true }
def FnExactRoundsDoneUptoSaid : Prop := fnExactRoundsDoneUptoRow.holds Try.pinned (OpenSpec.upto fnExactRoundsDoneSpec)

/-- 'laws.FnExactAllDone', WHERE WHAT IT READS IS OF BULK AT MOST 1048576: true; the input reads as it did. -/
def fnExactAllDoneUptoRow : OpenClaim := { program := "ytcdpehhhkfdoaaa", sum := "ba73d9ebbf3a3c09a3bce9ee6d6ac92f30e4f0a1b53e8fdf62dbb437e6a177f6", func := "loop.example/g00973/laws.FnExactAllDone", spec := "fnExactAllDone", unfollowed := true, recurses := true, apart := false, narrowed := true }
def FnExactAllDoneUptoSaid : Prop := fnExactAllDoneUptoRow.holds Try.pinned (OpenSpec.upto fnExactAllDoneSpec)

/-- 'laws.FnExactConsumed', WHERE WHAT IT READS IS OF BULK AT MOST 1048576: true; the input reads as it did. -/
def fnExactConsumedUptoRow : OpenClaim := { program := "ytcdpehhhkfdoaaa", sum := "ba73d9ebbf3a3c09a3bce9ee6d6ac92f30e4f0a1b53e8fdf62dbb437e6a177f6", func := "loop.example/g00973/laws.FnExactConsumed", spec := "fnExactConsumed", apart := false, narrowed := true }
def FnExactConsumedUptoSaid : Prop := fnExactConsumedUptoRow.holds Try.pinned (OpenSpec.upto fnExactConsumedSpec)

/-- 'laws.FnExactEpochsDone', WHERE WHAT IT READS IS OF BULK AT MOST 1048576: true; the input reads as it did. -/
def fnExactEpochsDoneUptoRow : OpenClaim := { program := "ytcdpehhhkfdoaaa", sum := "ba73d9ebbf3a3c09a3bce9ee6d6ac92f30e4f0a1b53e8fdf62dbb437e6a177f6", func := "loop.example/g00973/laws.FnExactEpochsDone", spec := "fnExactEpochsDone", unfollowed := true, recurses := true, apart := false, narrowed := true }
def FnExactEpochsDoneUptoSaid : Prop := fnExactEpochsDoneUptoRow.holds Try.pinned (OpenSpec.upto fnExactEpochsDoneSpec)

/-- 'laws.FnExactSumsOk', WHERE WHAT IT READS IS OF BULK AT MOST 1048576: true; the input reads as it did. -/
def fnExactSumsOkUptoRow : OpenClaim := { program := "ytcdpehhhkfdoaaa", sum := "ba73d9ebbf3a3c09a3bce9ee6d6ac92f30e4f0a1b53e8fdf62dbb437e6a177f6", func := "loop.example/g00973/laws.FnExactSumsOk", spec := "fnExactSumsOk", apart := false, narrowed := true }
def FnExactSumsOkUptoSaid : Prop := fnExactSumsOkUptoRow.holds Try.pinned (OpenSpec.upto fnExactSumsOkSpec)

/-- 'laws.FnExactOwnersOk', WHERE WHAT IT READS IS OF BULK AT MOST 1048576: true; the input reads as it did. -/
def fnExactOwnersOkUptoRow : OpenClaim := { program := "ytcdpehhhkfdoaaa", sum := "ba73d9ebbf3a3c09a3bce9ee6d6ac92f30e4f0a1b53e8fdf62dbb437e6a177f6", func := "loop.example/g00973/laws.FnExactOwnersOk", spec := "fnExactOwnersOk", unfollowed := true, recurses := true, apart := false, narrowed := true }
def FnExactOwnersOkUptoSaid : Prop := fnExactOwnersOkUptoRow.holds Try.pinned (OpenSpec.upto fnExactOwnersOkSpec)

/-- 'laws.FnExactNewsFor', WHERE WHAT IT READS IS OF BULK AT MOST 1048576: true; the input reads as it did. -/
def fnExactNewsForUptoRow : OpenClaim := { program := "ytcdpehhhkfdoaaa", sum := "ba73d9ebbf3a3c09a3bce9ee6d6ac92f30e4f0a1b53e8fdf62dbb437e6a177f6", func := "loop.example/g00973/laws.FnExactNewsFor", spec := "fnExactNewsFor", apart := false, narrowed := true }
def FnExactNewsForUptoSaid : Prop := fnExactNewsForUptoRow.holds Try.pinned (OpenSpec.upto fnExactNewsForSpec)

/-- 'laws.FnExactCappedIn', WHERE WHAT IT READS IS OF BULK AT MOST 1048576: true; the input reads as it did. -/
def fnExactCappedInUptoRow : OpenClaim := { program := "ytcdpehhhkfdoaaa", sum := "ba73d9ebbf3a3c09a3bce9ee6d6ac92f30e4f0a1b53e8fdf62dbb437e6a177f6", func := "loop.example/g00973/laws.FnExactCappedIn", spec := "fnExactCappedIn", apart := false, narrowed := true }
def FnExactCappedInUptoSaid : Prop := fnExactCappedInUptoRow.holds Try.pinned (OpenSpec.upto fnExactCappedInSpec)

end Rows
end Go.Proofs.Ytcdpehhhkfdoaaa
