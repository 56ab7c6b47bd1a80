import Derived.Test.YtdchjefneblpgaaGreatB0
set_option linter.unusedVariables false
set_option linter.unusedSimpArgs false
namespace Go.Proofs.YtdchjefneblpgaaGreat
open Go.Sx Go.RowKit
structure gB where
 bc:Int
 ec:Int
 deriving DecidableEq
def gB.e(x:gB):List D:=[I x.bc,I x.ec]
structure gB.wf (x:gB):Prop where
 FA:ay .i64 x.bc
 auT:ay .i64 x.ec
structure Count where
 bw:gB
 n:Int
 deriving DecidableEq
def Count.e(x:Count):List D:=[I x.bw.bc,I x.bw.ec,I x.n]
structure Count.wf (x:Count):Prop where
 asN:x.bw.wf
 auC:ay .i64 x.n
structure aG where
 op:Int
 bw:gB
 key:Int
 val:Int
 deriving DecidableEq
def aG.e(x:aG):List D:=[I x.op,I x.bw.bc,I x.bw.ec,I x.key,I x.val]
structure aG.wf (x:aG):Prop where
 YN:ay .i64 x.op
 asN:x.bw.wf
 YB:ay .i64 x.key
 as4:ay .i64 x.val
structure Cell where
 op:Int
 bc:Int
 key:Int
 val:Int
 deriving DecidableEq
def Cell.e(x:Cell):List D:=[I x.op,I x.bc,I x.key,I x.val]
structure Cell.wf (x:Cell):Prop where
 YN:ay .i64 x.op
 FA:ay .i64 x.bc
 YB:ay .i64 x.key
 as4:ay .i64 x.val
structure cD where
 bc:Int
 dq:Bool
 deriving DecidableEq
def cD.e(x:cD):List D:=[I x.bc,B x.dq]
structure cD.wf (x:cD):Prop where
 FA:ay .i64 x.bc
structure b0 where
 going:Bool
 place:Int
 sum:Int
 bS:Bool
 dq:Bool
 deriving DecidableEq
def b0.e(x:b0):List D:=[B x.going,I x.place,I x.sum,B x.bS,B x.dq]
structure b0.wf (x:b0):Prop where
 auJ:ay .i64 x.place
 auP:ay .i64 x.sum
structure ca where
 dest:Int
 bc:Int
 dq:Bool
 deriving DecidableEq
def ca.e(x:ca):List D:=[I x.dest,I x.bc,B x.dq]
structure ca.wf (x:ca):Prop where
 atL:ay .i64 x.dest
 FA:ay .i64 x.bc
structure dd where
 kind:Int
 a:Int
 b:Int
 deriving DecidableEq
def dd.e(x:dd):List D:=[I x.kind,I x.a,I x.b]
structure dd.wf (x:dd):Prop where
 YC:ay .i64 x.kind
 VZ:ay .i64 x.a
 V3:ay .i64 x.b
structure Node where
 kind:Int
 a:Int
 b:Int
 outs:List Int
 deriving DecidableEq
def Node.e(x:Node):List D:=[I x.kind,I x.a,I x.b,.J 1 (x.outs.map a')]
def fb{α:Type}(sz:α->Nat)(xs:List α):Nat:=xs.length+(xs.map sz).sum
def Node.sz(x:Node):Nat:=x.outs.length
structure Node.wf (x:Node):Prop where
 YC:ay .i64 x.kind
 VZ:ay .i64 x.a
 V3:ay .i64 x.b
 auI:(x.outs.length:Int)<=9223372036854775807/\∀y∈x.outs,ay .i64 y
structure bD where
 cap:Int
 queue:List aG
 e0:Int
 back:Int
 fs:Int
 du:Int
 deriving DecidableEq
def bD.e(x:bD):List D:=[I x.cap,.J 5 (x.queue.map aG.e),I x.e0,I x.back,I x.fs,I x.du]
def bD.sz(x:bD):Nat:=x.queue.length
structure bD.wf (x:bD):Prop where
 MX:ay .i64 x.cap
 anf:(x.queue.length:Int)<=9223372036854775807/\∀y∈x.queue,y.wf
 atK:ay .i64 x.e0
 atF:ay .i64 x.back
 auN:ay .i64 x.fs
 M7:ay .i64 x.du
structure bX where
 nodes:List Node
 az:Int
 cap:Int
 deriving DecidableEq
def bX.e(x:bX):List D:=[.J 4 (x.nodes.map Node.e),I x.az,I x.cap]
def bX.sz(x:bX):Nat:=fb Node.sz x.nodes
structure bX.wf (x:bX):Prop where
 auD:(x.nodes.length:Int)<=9223372036854775807/\∀y∈x.nodes,y.wf
 Uj:ay .i64 x.az
 MX:ay .i64 x.cap
structure aS where
 queue:List aG
 cm:List aG
 b8:List aG
 cells:List Cell
 bK:List Int
 bS:List Bool
 bC:List Bool
 b4:List cD
 deriving DecidableEq
def aS.e(x:aS):List D:=[.J 5 (x.queue.map aG.e),.J 5 (x.cm.map aG.e),.J 5 (x.b8.map aG.e),.J 4 (x.cells.map Cell.e),.J 1 (x.bK.map a'),.J 1 (x.bS.map cv),.J 1 (x.bC.map cv),.J 2 (x.b4.map cD.e)]
def aS.sz(x:aS):Nat:=x.queue.length+x.cm.length+x.b8.length+x.cells.length+x.bK.length+x.bS.length+x.bC.length+x.b4.length
structure aS.wf (x:aS):Prop where
 anf:(x.queue.length:Int)<=9223372036854775807/\∀y∈x.queue,y.wf
 auO:(x.cm.length:Int)<=9223372036854775807/\∀y∈x.cm,y.wf
 auu:(x.b8.length:Int)<=9223372036854775807/\∀y∈x.b8,y.wf
 atJ:(x.cells.length:Int)<=9223372036854775807/\∀y∈x.cells,y.wf
 auQ:(x.bK.length:Int)<=9223372036854775807/\∀y∈x.bK,ay .i64 y
 atG:(x.bS.length:Int)<=9223372036854775807
 atI:(x.bC.length:Int)<=9223372036854775807
 atM:(x.b4.length:Int)<=9223372036854775807/\∀y∈x.b4,y.wf
structure bd where
 aF:bX
 az:List aS
 bZ:List bD
 tokens:List b0
 news:List ca
 deriving DecidableEq
def bd.e(x:bd):List D:=[.J 4 (x.aF.nodes.map Node.e),I x.aF.az,I x.aF.cap,.J 8 (x.az.map aS.e),.J 6 (x.bZ.map bD.e),.J 5 (x.tokens.map b0.e),.J 3 (x.news.map ca.e)]
def bd.sz(x:bd):Nat:=x.aF.sz+fb aS.sz x.az+fb bD.sz x.bZ+x.tokens.length+x.news.length
structure bd.wf (x:bd):Prop where
 Wv:x.aF.wf
 Uj:(x.az.length:Int)<=9223372036854775807/\∀y∈x.az,y.wf
 YE:(x.bZ.length:Int)<=9223372036854775807/\∀y∈x.bZ,y.wf
 auS:(x.tokens.length:Int)<=9223372036854775807/\∀y∈x.tokens,y.wf
 RU:(x.news.length:Int)<=9223372036854775807/\∀y∈x.news,y.wf
theorem xq{α:Type}{sz:α->Nat}{xs:List α}{m:Nat}(h:fb sz xs<=m):xs.length<=m:=by unfold fb at h;omega
theorem tx{α:Type}{sz:α->Nat}{xs:List α}{m:Nat}(h:fb sz xs<=m){a:α}(ah:a∈xs):sz a<=m:=by
 have:=C6 (sz:=sz) ah;unfold fb at h;omega
