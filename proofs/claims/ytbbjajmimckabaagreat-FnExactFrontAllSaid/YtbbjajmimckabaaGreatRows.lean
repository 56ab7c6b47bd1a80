/-
  No cell of these rows narrows 'for every input' (looked for: loops, veiled, ifaces, maps, wideKeys, modest, calm, conditions, laid).
  DERIVED. THE GIVEN ROWS OF THIS SEAT. 4 by the template 'for every input the law returns true; each argument reads behind the call as it read before'; 0 by the template 'total and deterministic' (their statements: YtbbjajmimckabaaGreatTotals.lean).
  GIVEN WITH THE SEED: the statements are not yours to turn. If you find one false, say at which input.
  Laid BY PROGRAM, IN A SANDBOX (cutbox-rows.mjs): the forced cells as the released guide's own fill.sh prints them over the translation 3ca9e513e7beb4e0… (all of the seat's roots in one cut). By AI agents, Wed Nov 11 2026. No macro, syntax, notation, axiom, sorry.
-/
import Derived.Test.YtbbjajmimckabaaGreatChecked
import GoSem.Claim
import GoSem.ClaimJoined
import GoSem.ClaimMapViews
import Derived.JoinedTies
import Derived.KernelRfl
namespace Go.Proofs.YtbbjajmimckabaaGreat
/- THE CELL 'sum', in the pinned program and in every row, IS THE sha256 OF THE DUMP (.gsa) THAT YtbbjajmimckabaaGreatProg.lean LOADS. Nothing in Lean hashes anything: it is a label: what it is worth is what the hold of that sum in a sandbox is worth. -/
noncomputable def Tryz.pinned : Pinned := { name := "ytbbjajmimckabaagreat", sum := "3ca9e513e7beb4e0e797744b913506e3d8103d8f0a83e12625dcc61d17b4bb92", checked := Tryz.checked }
namespace Rows
def none {H : Type} : Left H := { results := [], args := [] }

/-- 'laws.FnExactPendingAll': WHATEVER THE INPUT: true; the input reads as it did. -/
def fnExactPendingAllSpec : ChangeSpec := { name := "fnExactPendingAll", fn := fun _ => fun
  | [d] => { results := [.lit (.bool true)], args := [d] }
  | _ => none }
def fnExactPendingAllRow : OpenClaim := { program := "ytbbjajmimckabaagreat", sum := "3ca9e513e7beb4e0e797744b913506e3d8103d8f0a83e12625dcc61d17b4bb92", func := "loop.example/g00973/laws.FnExactPendingAll", spec := "fnExactPendingAll", unfollowed := true, recurses := true, apart := false }
def FnExactPendingAllSaid : Prop := fnExactPendingAllRow.holds Tryz.pinned (OpenSpec.ofChange fnExactPendingAllSpec)

/-- ITS FALSE NEIGHBOUR: 'it returns false'. Refute it at one input. -/
def fnExactPendingAllWrong : ChangeSpec := { name := "fnExactPendingAll", fn := fun _ => fun
  | [d] => { results := [.lit (.bool false)], args := [d] }
  | _ => none }
def FnExactPendingAllWrongFalsely : Prop := fnExactPendingAllRow.holds Tryz.pinned (OpenSpec.ofChange fnExactPendingAllWrong)

/-- 'laws.FnExactPendingOf': WHATEVER THE INPUT: true; the input reads as it did. -/
def fnExactPendingOfSpec : ChangeSpec := { name := "fnExactPendingOf", fn := fun _ => fun
  | [d1, d2] => { results := [.lit (.bool true)], args := [d1, d2] }
  | _ => none }
def fnExactPendingOfRow : OpenClaim := { program := "ytbbjajmimckabaagreat", sum := "3ca9e513e7beb4e0e797744b913506e3d8103d8f0a83e12625dcc61d17b4bb92", func := "loop.example/g00973/laws.FnExactPendingOf", spec := "fnExactPendingOf", unfollowed := true, recurses := true, apart := false }
def FnExactPendingOfSaid : Prop := fnExactPendingOfRow.holds Tryz.pinned (OpenSpec.ofChange fnExactPendingOfSpec)

/-- ITS FALSE NEIGHBOUR: 'it returns false'. Refute it at one input. -/
def fnExactPendingOfWrong : ChangeSpec := { name := "fnExactPendingOf", fn := fun _ => fun
  | [d1, d2] => { results := [.lit (.bool false)], args := [d1, d2] }
  | _ => none }
def FnExactPendingOfWrongFalsely : Prop := fnExactPendingOfRow.holds Tryz.pinned (OpenSpec.ofChange fnExactPendingOfWrong)

/-- 'laws.FnExactFrontAll': WHATEVER THE INPUT: true; the input reads as it did. -/
def fnExactFrontAllSpec : ChangeSpec := { name := "fnExactFrontAll", fn := fun _ => fun
  | [d] => { results := [.lit (.bool true)], args := [d] }
  | _ => none }
def fnExactFrontAllRow : OpenClaim := { program := "ytbbjajmimckabaagreat", sum := "3ca9e513e7beb4e0e797744b913506e3d8103d8f0a83e12625dcc61d17b4bb92", func := "loop.example/g00973/laws.FnExactFrontAll", spec := "fnExactFrontAll", unfollowed := true, recurses := true, apart := false }
def FnExactFrontAllSaid : Prop := fnExactFrontAllRow.holds Tryz.pinned (OpenSpec.ofChange fnExactFrontAllSpec)

/-- ITS FALSE NEIGHBOUR: 'it returns false'. Refute it at one input. -/
def fnExactFrontAllWrong : ChangeSpec := { name := "fnExactFrontAll", fn := fun _ => fun
  | [d] => { results := [.lit (.bool false)], args := [d] }
  | _ => none }
def FnExactFrontAllWrongFalsely : Prop := fnExactFrontAllRow.holds Tryz.pinned (OpenSpec.ofChange fnExactFrontAllWrong)

/-- 'laws.FnExactSafeAt': WHATEVER THE INPUT: true; the input reads as it did. -/
def fnExactSafeAtSpec : ChangeSpec := { name := "fnExactSafeAt", fn := fun _ => fun
  | [d1, d2] => { results := [.lit (.bool true)], args := [d1, d2] }
  | _ => none }
def fnExactSafeAtRow : OpenClaim := { program := "ytbbjajmimckabaagreat", sum := "3ca9e513e7beb4e0e797744b913506e3d8103d8f0a83e12625dcc61d17b4bb92", func := "loop.example/g00973/laws.FnExactSafeAt", spec := "fnExactSafeAt", unfollowed := true, recurses := true, apart := false }
def FnExactSafeAtSaid : Prop := fnExactSafeAtRow.holds Tryz.pinned (OpenSpec.ofChange fnExactSafeAtSpec)

/-- ITS FALSE NEIGHBOUR: 'it returns false'. Refute it at one input. -/
def fnExactSafeAtWrong : ChangeSpec := { name := "fnExactSafeAt", fn := fun _ => fun
  | [d1, d2] => { results := [.lit (.bool false)], args := [d1, d2] }
  | _ => none }
def FnExactSafeAtWrongFalsely : Prop := fnExactSafeAtRow.holds Tryz.pinned (OpenSpec.ofChange fnExactSafeAtWrong)

/- THE SECOND FORM. 'bulk': how many values and letters a reading holds, each counted each time it is reached (what is shared counts as often as it is met; a slice's spare places count too). A statement '..UptoSaid' is the law's where the arguments, and the package variables that the reading takes, are together of bulk at most 1048576: NARROWER than '..Said'. Prove '..Said' where nothing that the law and all that it calls make is longer than what came in: it says more and counts as full. Else prove '..UptoSaid'. A law counts once. -/
mutual
def uptoBulk {H : Type} : DataW H → Nat
  | .lit (.string bytes) => bytes.length + 1
  | .lit _ => 1
  | .nil => 1
  | .ptr d => uptoBulk d + 1
  | .slice elems spare => uptoBulkAll elems + uptoBulkAll spare + 1
  | .agg parts => uptoBulkAll parts + 1
  | .iface _ d => uptoBulk d + 1
  | .map entries => uptoBulkEntries entries + 1
  | .held _ => 1
def uptoBulkAll {H : Type} : List (DataW H) → Nat
  | [] => 0
  | d :: r => uptoBulk d + uptoBulkAll r
def uptoBulkEntries {H : Type} : List (Lit × DataW H) → Nat
  | [] => 0
  | x :: r => uptoBulkEntry x + uptoBulkEntries r
def uptoBulkEntry {H : Type} : Lit × DataW H → Nat
  | (.string bytes, d) => bytes.length + uptoBulk d + 1
  | (_, d) => uptoBulk d + 1
 end
def uptoSmall : (H : Type) → List (DataW H) → Bool := fun _ ds => decide (uptoBulkAll ds ≤ 1048576)
def OpenSpec.upto (s : _root_.Go.ChangeSpec) : _root_.Go.OpenSpec := { _root_.Go.OpenSpec.ofChange s with cond := some uptoSmall }

/-- 'laws.FnExactPendingAll', WHERE WHAT IT READS IS OF BULK AT MOST 1048576: true; the input reads as it did. -/
def fnExactPendingAllUptoRow : OpenClaim := { program := "ytbbjajmimckabaagreat", sum := "3ca9e513e7beb4e0e797744b913506e3d8103d8f0a83e12625dcc61d17b4bb92", func := "loop.example/g00973/laws.FnExactPendingAll", spec := "fnExactPendingAll", unfollowed := true, recurses := true, apart := false, narrowed := true }
def FnExactPendingAllUptoSaid : Prop := fnExactPendingAllUptoRow.holds Tryz.pinned (OpenSpec.upto fnExactPendingAllSpec)

/-- 'laws.FnExactPendingOf', WHERE WHAT IT READS IS OF BULK AT MOST 1048576: true; the input reads as it did. -/
def fnExactPendingOfUptoRow : OpenClaim := { program := "ytbbjajmimckabaagreat", sum := "3ca9e513e7beb4e0e797744b913506e3d8103d8f0a83e12625dcc61d17b4bb92", func := "loop.example/g00973/laws.FnExactPendingOf", spec := "fnExactPendingOf", unfollowed := true, recurses := true, apart := false, narrowed := true }
def FnExactPendingOfUptoSaid : Prop := fnExactPendingOfUptoRow.holds Tryz.pinned (OpenSpec.upto fnExactPendingOfSpec)

/-- 'laws.FnExactFrontAll', WHERE WHAT IT READS IS OF BULK AT MOST 1048576: true; the input reads as it did. -/
def fnExactFrontAllUptoRow : OpenClaim := { program := "ytbbjajmimckabaagreat", sum := "3ca9e513e7beb4e0e797744b913506e3d8103d8f0a83e12625dcc61d17b4bb92", func := "loop.example/g00973/laws.FnExactFrontAll", spec := "fnExactFrontAll", unfollowed := true, recurses := true, apart := false, narrowed := true }
def FnExactFrontAllUptoSaid : Prop := fnExactFrontAllUptoRow.holds Tryz.pinned (OpenSpec.upto fnExactFrontAllSpec)

/-- 'laws.FnExactSafeAt', WHERE WHAT IT READS IS OF BULK AT MOST 1048576: true; the input reads as it did. -/
def fnExactSafeAtUptoRow : OpenClaim := { program := "ytbbjajmimckabaagreat", sum := "3ca9e513e7beb4e0e797744b913506e3d8103d8f0a83e12625dcc61d17b4bb92", func := "loop.example/g00973/laws.FnExactSafeAt", spec := "fnExactSafeAt", unfollowed := true, recurses := true, apart := false, narrowed := true }
def FnExactSafeAtUptoSaid : Prop := fnExactSafeAtUptoRow.holds Tryz.pinned (OpenSpec.upto fnExactSafeAtSpec)

end Rows
end Go.Proofs.YtbbjajmimckabaaGreat
