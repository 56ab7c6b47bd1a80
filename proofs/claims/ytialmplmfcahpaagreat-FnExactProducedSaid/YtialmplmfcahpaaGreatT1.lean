/- The records of the program, as structures, and their data (printed by gentypes.py) -/
import Derived.Test.YtialmplmfcahpaaGreatB0
set_option linter.unusedVariables false
set_option linter.unusedSimpArgs false
namespace Go.Proofs.YtialmplmfcahpaaGreat
open Go.Sx Go.RowKit
structure Stamp where
 epoch : Int
 turn : Int
 deriving DecidableEq
def Stamp.e (x : Stamp) : List D := [I x.epoch, I x.turn]
structure Stamp.wf (x : Stamp) : Prop where
 epoch_ok : inInt .i64 x.epoch
 turn_ok : inInt .i64 x.turn
structure Count where
 stamp : Stamp
 n : Int
 deriving DecidableEq
def Count.e (x : Count) : List D := [I x.stamp.epoch, I x.stamp.turn, I x.n]
structure Count.wf (x : Count) : Prop where
 stamp_ok : x.stamp.wf
 n_ok : inInt .i64 x.n
structure Record where
 op : Int
 stamp : Stamp
 key : Int
 val : Int
 deriving DecidableEq
def Record.e (x : Record) : List D := [I x.op, I x.stamp.epoch, I x.stamp.turn, I x.key, I x.val]
structure Record.wf (x : Record) : Prop where
 op_ok : inInt .i64 x.op
 stamp_ok : x.stamp.wf
 key_ok : inInt .i64 x.key
 val_ok : inInt .i64 x.val
structure Cell where
 op : Int
 epoch : Int
 key : Int
 val : Int
 deriving DecidableEq
def Cell.e (x : Cell) : List D := [I x.op, I x.epoch, I x.key, I x.val]
structure Cell.wf (x : Cell) : Prop where
 op_ok : inInt .i64 x.op
 epoch_ok : inInt .i64 x.epoch
 key_ok : inInt .i64 x.key
 val_ok : inInt .i64 x.val
structure Done where
 epoch : Int
 capped : Bool
 deriving DecidableEq
def Done.e (x : Done) : List D := [I x.epoch, B x.capped]
structure Done.wf (x : Done) : Prop where
 epoch_ok : inInt .i64 x.epoch
structure Token where
 going : Bool
 place : Int
 sum : Int
 black : Bool
 capped : Bool
 deriving DecidableEq
def Token.e (x : Token) : List D := [B x.going, I x.place, I x.sum, B x.black, B x.capped]
structure Token.wf (x : Token) : Prop where
 place_ok : inInt .i64 x.place
 sum_ok : inInt .i64 x.sum
structure News where
 dest : Int
 epoch : Int
 capped : Bool
 deriving DecidableEq
def News.e (x : News) : List D := [I x.dest, I x.epoch, B x.capped]
structure News.wf (x : News) : Prop where
 dest_ok : inInt .i64 x.dest
 epoch_ok : inInt .i64 x.epoch
structure Pick where
 kind : Int
 a : Int
 b : Int
 deriving DecidableEq
def Pick.e (x : Pick) : List D := [I x.kind, I x.a, I x.b]
structure Pick.wf (x : Pick) : Prop where
 kind_ok : inInt .i64 x.kind
 a_ok : inInt .i64 x.a
 b_ok : inInt .i64 x.b
structure Node where
 kind : Int
 a : Int
 b : Int
 outs : List Int
 deriving DecidableEq
def Node.e (x : Node) : List D := [I x.kind, I x.a, I x.b, .sl 1 (x.outs.map eI)]
def szS {α : Type} (sz : α → Nat) (xs : List α) : Nat := xs.length + (xs.map sz).sum
def Node.sz (x : Node) : Nat := x.outs.length
structure Node.wf (x : Node) : Prop where
 kind_ok : inInt .i64 x.kind
 a_ok : inInt .i64 x.a
 b_ok : inInt .i64 x.b
 outs_ok : (x.outs.length : Int) ≤ 9223372036854775807 ∧ ∀ y ∈ x.outs, inInt .i64 y
structure Link where
 cap : Int
 queue : List Record
 credits : Int
 back : Int
 sent : Int
 got : Int
 deriving DecidableEq
def Link.e (x : Link) : List D := [I x.cap, .sl 5 (x.queue.map Record.e), I x.credits, I x.back, I x.sent, I x.got]
def Link.sz (x : Link) : Nat := x.queue.length
structure Link.wf (x : Link) : Prop where
 cap_ok : inInt .i64 x.cap
 queue_ok : (x.queue.length : Int) ≤ 9223372036854775807 ∧ ∀ y ∈ x.queue, y.wf
 credits_ok : inInt .i64 x.credits
 back_ok : inInt .i64 x.back
 sent_ok : inInt .i64 x.sent
 got_ok : inInt .i64 x.got
structure Graph where
 nodes : List Node
 workers : Int
 cap : Int
 deriving DecidableEq
def Graph.e (x : Graph) : List D := [.sl 4 (x.nodes.map Node.e), I x.workers, I x.cap]
def Graph.sz (x : Graph) : Nat := szS Node.sz x.nodes
structure Graph.wf (x : Graph) : Prop where
 nodes_ok : (x.nodes.length : Int) ≤ 9223372036854775807 ∧ ∀ y ∈ x.nodes, y.wf
 workers_ok : inInt .i64 x.workers
 cap_ok : inInt .i64 x.cap
structure Worker where
 queue : List Record
 staged : List Record
 inputs : List Record
 cells : List Cell
 sums : List Int
 black : List Bool
 caps : List Bool
 dones : List Done
 deriving DecidableEq
def Worker.e (x : Worker) : List D := [.sl 5 (x.queue.map Record.e), .sl 5 (x.staged.map Record.e), .sl 5 (x.inputs.map Record.e), .sl 4 (x.cells.map Cell.e), .sl 1 (x.sums.map eI), .sl 1 (x.black.map eB), .sl 1 (x.caps.map eB), .sl 2 (x.dones.map Done.e)]
def Worker.sz (x : Worker) : Nat := x.queue.length + x.staged.length + x.inputs.length + x.cells.length + x.sums.length + x.black.length + x.caps.length + x.dones.length
structure Worker.wf (x : Worker) : Prop where
 queue_ok : (x.queue.length : Int) ≤ 9223372036854775807 ∧ ∀ y ∈ x.queue, y.wf
 staged_ok : (x.staged.length : Int) ≤ 9223372036854775807 ∧ ∀ y ∈ x.staged, y.wf
 inputs_ok : (x.inputs.length : Int) ≤ 9223372036854775807 ∧ ∀ y ∈ x.inputs, y.wf
 cells_ok : (x.cells.length : Int) ≤ 9223372036854775807 ∧ ∀ y ∈ x.cells, y.wf
 sums_ok : (x.sums.length : Int) ≤ 9223372036854775807 ∧ ∀ y ∈ x.sums, inInt .i64 y
 black_ok : (x.black.length : Int) ≤ 9223372036854775807
 caps_ok : (x.caps.length : Int) ≤ 9223372036854775807
 dones_ok : (x.dones.length : Int) ≤ 9223372036854775807 ∧ ∀ y ∈ x.dones, y.wf
structure Cluster where
 graph : Graph
 workers : List Worker
 links : List Link
 tokens : List Token
 news : List News
 deriving DecidableEq
def Cluster.e (x : Cluster) : List D := [.sl 4 (x.graph.nodes.map Node.e), I x.graph.workers, I x.graph.cap, .sl 8 (x.workers.map Worker.e), .sl 6 (x.links.map Link.e), .sl 5 (x.tokens.map Token.e), .sl 3 (x.news.map News.e)]
def Cluster.sz (x : Cluster) : Nat := x.graph.sz + szS Worker.sz x.workers + szS Link.sz x.links + x.tokens.length + x.news.length
structure Cluster.wf (x : Cluster) : Prop where
 graph_ok : x.graph.wf
 workers_ok : (x.workers.length : Int) ≤ 9223372036854775807 ∧ ∀ y ∈ x.workers, y.wf
 links_ok : (x.links.length : Int) ≤ 9223372036854775807 ∧ ∀ y ∈ x.links, y.wf
 tokens_ok : (x.tokens.length : Int) ≤ 9223372036854775807 ∧ ∀ y ∈ x.tokens, y.wf
 news_ok : (x.news.length : Int) ≤ 9223372036854775807 ∧ ∀ y ∈ x.news, y.wf
theorem qeA {α : Type} {sz : α → Nat} {xs : List α} {m : Nat} (h : szS sz xs ≤ m) : xs.length ≤ m := by unfold szS at h; omega
theorem qcR {α : Type} {sz : α → Nat} {xs : List α} {m : Nat} (h : szS sz xs ≤ m) {a : α} (ha : a ∈ xs) : sz a ≤ m := by
 have := qcQ (sz := sz) ha
 unfold szS at h; omega
end Go.Proofs.YtialmplmfcahpaaGreat
