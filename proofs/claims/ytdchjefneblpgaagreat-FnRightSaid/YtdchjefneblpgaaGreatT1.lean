import Derived.Test.YtdchjefneblpgaaGreatB0
set_option linter.unusedVariables false
set_option linter.unusedSimpArgs false
namespace Go.Proofs.YtdchjefneblpgaaGreat
open Go.Sx Go.RowKit
structure hR where
 aU:Int
 dG:Int
 deriving DecidableEq
def hR.e(x:hR):List D:=[I x.aU,I x.dG]
structure hR.wf (x:hR):Prop where
 JV:aJ .i64 x.aU
 aDY:aJ .i64 x.dG
structure Count where
 bf:hR
 n:Int
 deriving DecidableEq
def Count.e(x:Count):List D:=[I x.bf.aU,I x.bf.dG,I x.n]
structure Count.wf (x:Count):Prop where
 aBl:x.bf.wf
 aDD:aJ .i64 x.n
structure ay where
 op:Int
 bf:hR
 key:Int
 val:Int
 deriving DecidableEq
def ay.e(x:ay):List D:=[I x.op,I x.bf.aU,I x.bf.dG,I x.key,I x.val]
structure ay.wf (x:ay):Prop where
 ae0:aJ .i64 x.op
 aBl:x.bf.wf
 aeJ:aJ .i64 x.key
 aBy:aJ .i64 x.val
structure Cell where
 op:Int
 aU:Int
 key:Int
 val:Int
 deriving DecidableEq
def Cell.e(x:Cell):List D:=[I x.op,I x.aU,I x.key,I x.val]
structure Cell.wf (x:Cell):Prop where
 ae0:aJ .i64 x.op
 JV:aJ .i64 x.aU
 aeJ:aJ .i64 x.key
 aBy:aJ .i64 x.val
structure cz where
 aU:Int
 b7:Bool
 deriving DecidableEq
def cz.e(x:cz):List D:=[I x.aU,B x.b7]
structure cz.wf (x:cz):Prop where
 JV:aJ .i64 x.aU
structure bO where
 going:Bool
 place:Int
 sum:Int
 bV:Bool
 b7:Bool
 deriving DecidableEq
def bO.e(x:bO):List D:=[B x.going,I x.place,I x.sum,B x.bV,B x.b7]
structure bO.wf (x:bO):Prop where
 aDM:aJ .i64 x.place
 aDT:aJ .i64 x.sum
structure bW where
 dest:Int
 aU:Int
 b7:Bool
 deriving DecidableEq
def bW.e(x:bW):List D:=[I x.dest,I x.aU,B x.b7]
structure bW.wf (x:bW):Prop where
 aCk:aJ .i64 x.dest
 JV:aJ .i64 x.aU
structure b6 where
 kind:Int
 a:Int
 b:Int
 deriving DecidableEq
def b6.e(x:b6):List D:=[I x.kind,I x.a,I x.b]
structure b6.wf (x:b6):Prop where
 aeK:aJ .i64 x.kind
 ab6:aJ .i64 x.a
 aca:aJ .i64 x.b
structure Node where
 kind:Int
 a:Int
 b:Int
 outs:List Int
 deriving DecidableEq
def Node.e(x:Node):List D:=[I x.kind,I x.a,I x.b,.J 1 (x.outs.map bd)]
def fZ{α:Type}(sz:α->Nat)(xs:List α):Nat:=xs.length+(xs.map sz).sum
def Node.sz(x:Node):Nat:=x.outs.length
structure Node.wf (x:Node):Prop where
 aeK:aJ .i64 x.kind
 ab6:aJ .i64 x.a
 aca:aJ .i64 x.b
 aDK:(x.outs.length:Int)<=9223372036854775807/\∀y∈x.outs,aJ .i64 y
structure bC where
 cap:Int
 queue:List ay
 fb:Int
 back:Int
 eG:Int
 eo:Int
 deriving DecidableEq
def bC.e(x:bC):List D:=[I x.cap,.J 5 (x.queue.map ay.e),I x.fb,I x.back,I x.eG,I x.eo]
def bC.sz(x:bC):Nat:=x.queue.length
structure bC.wf (x:bC):Prop where
 RL:aJ .i64 x.cap
 awt:(x.queue.length:Int)<=9223372036854775807/\∀y∈x.queue,y.wf
 aCh:aJ .i64 x.fb
 aCb:aJ .i64 x.back
 aDQ:aJ .i64 x.eG
 RW:aJ .i64 x.eo
structure bF where
 nodes:List Node
 ao:Int
 cap:Int
 deriving DecidableEq
def bF.e(x:bF):List D:=[.J 4 (x.nodes.map Node.e),I x.ao,I x.cap]
def bF.sz(x:bF):Nat:=fZ Node.sz x.nodes
structure bF.wf (x:bF):Prop where
 aDE:(x.nodes.length:Int)<=9223372036854775807/\∀y∈x.nodes,y.wf
 Z':aJ .i64 x.ao
 RL:aJ .i64 x.cap
structure aN where
 queue:List ay
 cj:List ay
 bX:List ay
 cells:List Cell
 bP:List Int
 bV:List Bool
 bl:List Bool
 b1:List cz
 deriving DecidableEq
def aN.e(x:aN):List D:=[.J 5 (x.queue.map ay.e),.J 5 (x.cj.map ay.e),.J 5 (x.bX.map ay.e),.J 4 (x.cells.map Cell.e),.J 1 (x.bP.map bd),.J 1 (x.bV.map cF),.J 1 (x.bl.map cF),.J 2 (x.b1.map cz.e)]
def aN.sz(x:aN):Nat:=x.queue.length+x.cj.length+x.bX.length+x.cells.length+x.bP.length+x.bV.length+x.bl.length+x.b1.length
structure aN.wf (x:aN):Prop where
 awt:(x.queue.length:Int)<=9223372036854775807/\∀y∈x.queue,y.wf
 aDR:(x.cj.length:Int)<=9223372036854775807/\∀y∈x.cj,y.wf
 aDz:(x.bX.length:Int)<=9223372036854775807/\∀y∈x.bX,y.wf
 aCf:(x.cells.length:Int)<=9223372036854775807/\∀y∈x.cells,y.wf
 aDU:(x.bP.length:Int)<=9223372036854775807/\∀y∈x.bP,aJ .i64 y
 aCc:(x.bV.length:Int)<=9223372036854775807
 aCe:(x.bl.length:Int)<=9223372036854775807
 aCl:(x.b1.length:Int)<=9223372036854775807/\∀y∈x.b1,y.wf
structure aV where
 ax:bF
 ao:List aN
 bQ:List bC
 tokens:List bO
 news:List bW
 deriving DecidableEq
def aV.e(x:aV):List D:=[.J 4 (x.ax.nodes.map Node.e),I x.ax.ao,I x.ax.cap,.J 8 (x.ao.map aN.e),.J 6 (x.bQ.map bC.e),.J 5 (x.tokens.map bO.e),.J 3 (x.news.map bW.e)]
def aV.sz(x:aV):Nat:=x.ax.sz+fZ aN.sz x.ao+fZ bC.sz x.bQ+x.tokens.length+x.news.length
structure aV.wf (x:aV):Prop where
 acD:x.ax.wf
 Z':(x.ao.length:Int)<=9223372036854775807/\∀y∈x.ao,y.wf
 aeQ:(x.bQ.length:Int)<=9223372036854775807/\∀y∈x.bQ,y.wf
 aDX:(x.tokens.length:Int)<=9223372036854775807/\∀y∈x.tokens,y.wf
 W0:(x.news.length:Int)<=9223372036854775807/\∀y∈x.news,y.wf
theorem G'{α:Type}{sz:α->Nat}{xs:List α}{m:Nat}(h:fZ sz xs<=m){a:α}(ae:a∈xs):sz a<=m:=by
 have:=AT (sz:=sz) ae;unfold fZ at h;omega
