/- The functions mark..: what they write, and what stands behind (printed by gentypes.py) -/
import Derived.Test.YtialmplmfcahpaaGreatT1
import Derived.Test.YtialmplmfcahpaaGreatGM
import Derived.Test.YtialmplmfcahpaaGreatR22
set_option linter.unusedVariables false
set_option linter.unusedSimpArgs false
namespace Go.Proofs.YtialmplmfcahpaaGreat
open Go.Sx Go.RowKit
def nextL {α : Type} (next : Int → α → Int) : Int → List α → Int
 | k, [] => k
 | k, x :: r => nextL next (next k x) r
def markL {α : Type} (mark : Int → α → α) (next : Int → α → Int) : Int → List α → List α
 | _, [] => []
 | k, x :: r => mark k x :: markL mark next (next k x) r
section
variable {α : Type} {e : α → List D} {mark : Int → α → α} {next : Int → α → Int} {k : Int} {xs : List α} {i : Nat} {a : α}
end
def nI (k : Int) (_ : Int) : Int := k + 1
def mI (k : Int) (_ : Int) : Int := k
def nB (k : Int) (_ : Bool) : Int := k + 1
def mB (k : Int) (_ : Bool) : Bool := k.tmod 3 == 0
def Stamp.mark (k : Int) (_ : Stamp) : Stamp := ⟨k, k + 1⟩
def Stamp.next (k : Int) (_ : Stamp) : Int := k + 1 + 1
def Stamp.cb (_ : Stamp) : Nat := 2
def Record.mark (k : Int) (_ : Record) : Record := ⟨k, ⟨k + 1, k + 1 + 1⟩, k + 1 + 1 + 1, k + 1 + 1 + 1 + 1⟩
def Record.next (k : Int) (_ : Record) : Int := k + 1 + 1 + 1 + 1 + 1
def Record.cb (_ : Record) : Nat := 5
def Cell.mark (k : Int) (_ : Cell) : Cell := ⟨k, k + 1, k + 1 + 1, k + 1 + 1 + 1⟩
def Cell.next (k : Int) (_ : Cell) : Int := k + 1 + 1 + 1 + 1
def Cell.cb (_ : Cell) : Nat := 4
def Done.mark (k : Int) (_ : Done) : Done := ⟨k, ((k + 1).tmod 3 == 0)⟩
def Done.next (k : Int) (_ : Done) : Int := k + 1 + 1
def Done.cb (_ : Done) : Nat := 2
def Token.mark (k : Int) (_ : Token) : Token := ⟨(k.tmod 3 == 0), k + 1, k + 1 + 1, ((k + 1 + 1 + 1).tmod 3 == 0), ((k + 1 + 1 + 1 + 1).tmod 3 == 0)⟩
def Token.next (k : Int) (_ : Token) : Int := k + 1 + 1 + 1 + 1 + 1
def Token.cb (_ : Token) : Nat := 5
def News.mark (k : Int) (_ : News) : News := ⟨k, k + 1, ((k + 1 + 1).tmod 3 == 0)⟩
def News.next (k : Int) (_ : News) : Int := k + 1 + 1 + 1
def News.cb (_ : News) : Nat := 3
def Pick.mark (k : Int) (_ : Pick) : Pick := ⟨k, k + 1, k + 1 + 1⟩
def Pick.next (k : Int) (_ : Pick) : Int := k + 1 + 1 + 1
def Pick.cb (_ : Pick) : Nat := 3
def Node.mark (k : Int) (x : Node) : Node := ⟨k, k + 1, k + 1 + 1, markL mI nI (k + 1 + 1 + 1) x.outs⟩
def Node.next (k : Int) (x : Node) : Int := nextL nI (k + 1 + 1 + 1) x.outs
def Node.cb (x : Node) : Nat := 3 + (x.outs.map (fun _ => 1)).sum
def Link.mark (k : Int) (x : Link) : Link := ⟨k, markL Record.mark Record.next (k + 1) x.queue, nextL Record.next (k + 1) x.queue, nextL Record.next (k + 1) x.queue + 1, nextL Record.next (k + 1) x.queue + 1 + 1, nextL Record.next (k + 1) x.queue + 1 + 1 + 1⟩
def Link.next (k : Int) (x : Link) : Int := nextL Record.next (k + 1) x.queue + 1 + 1 + 1 + 1
def Link.cb (x : Link) : Nat := 5 + (x.queue.map Record.cb).sum
def Worker.mark (k : Int) (x : Worker) : Worker := ⟨markL Record.mark Record.next k x.queue, markL Record.mark Record.next (nextL Record.next k x.queue) x.staged, markL Record.mark Record.next (nextL Record.next (nextL Record.next k x.queue) x.staged) x.inputs, markL Cell.mark Cell.next (nextL Record.next (nextL Record.next (nextL Record.next k x.queue) x.staged) x.inputs) x.cells, markL mI nI (nextL Cell.next (nextL Record.next (nextL Record.next (nextL Record.next k x.queue) x.staged) x.inputs) x.cells) x.sums, markL mB nB (nextL nI (nextL Cell.next (nextL Record.next (nextL Record.next (nextL Record.next k x.queue) x.staged) x.inputs) x.cells) x.sums) x.black, markL mB nB (nextL nB (nextL nI (nextL Cell.next (nextL Record.next (nextL Record.next (nextL Record.next k x.queue) x.staged) x.inputs) x.cells) x.sums) x.black) x.caps, markL Done.mark Done.next (nextL nB (nextL nB (nextL nI (nextL Cell.next (nextL Record.next (nextL Record.next (nextL Record.next k x.queue) x.staged) x.inputs) x.cells) x.sums) x.black) x.caps) x.dones⟩
def Worker.next (k : Int) (x : Worker) : Int := nextL Done.next (nextL nB (nextL nB (nextL nI (nextL Cell.next (nextL Record.next (nextL Record.next (nextL Record.next k x.queue) x.staged) x.inputs) x.cells) x.sums) x.black) x.caps) x.dones
def Worker.cb (x : Worker) : Nat := 0 + (x.queue.map Record.cb).sum + (x.staged.map Record.cb).sum + (x.inputs.map Record.cb).sum + (x.cells.map Cell.cb).sum + (x.sums.map (fun _ => 1)).sum + (x.black.map (fun _ => 1)).sum + (x.caps.map (fun _ => 1)).sum + (x.dones.map Done.cb).sum
end Go.Proofs.YtialmplmfcahpaaGreat
