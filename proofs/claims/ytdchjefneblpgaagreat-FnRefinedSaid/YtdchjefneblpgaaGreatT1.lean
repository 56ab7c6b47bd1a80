import Derived.Test.YtdchjefneblpgaaGreatB0
set_option linter.unusedVariables false
set_option linter.unusedSimpArgs false
namespace Go.Proofs.YtdchjefneblpgaaGreat
open Go.Sx Go.RowKit
structure gz where
 bd:Int
 dC:Int
 deriving DecidableEq
def gz.e(x:gz):List D:=[I x.bd,I x.dC]
structure gz.wf (x:gz):Prop where
 Iu:aD .i64 x.bd
 aDx:aD .i64 x.dC
structure Count where
 bq:gz
 n:Int
 deriving DecidableEq
def Count.e(x:Count):List D:=[I x.bq.bd,I x.bq.dC,I x.n]
structure Count.wf (x:Count):Prop where
 aBv:x.bq.wf
 aDd:aD .i64 x.n
structure aq where
 op:Int
 bq:gz
 key:Int
 val:Int
 deriving DecidableEq
def aq.e(x:aq):List D:=[I x.op,I x.bq.bd,I x.bq.dC,I x.key,I x.val]
structure aq.wf (x:aq):Prop where
 adQ:aD .i64 x.op
 aBv:x.bq.wf
 adC:aD .i64 x.key
 aBJ:aD .i64 x.val
structure Cell where
 op:Int
 bd:Int
 key:Int
 val:Int
 deriving DecidableEq
def Cell.e(x:Cell):List D:=[I x.op,I x.bd,I x.key,I x.val]
structure Cell.wf (x:Cell):Prop where
 adQ:aD .i64 x.op
 Iu:aD .i64 x.bd
 adC:aD .i64 x.key
 aBJ:aD .i64 x.val
structure cR where
 bd:Int
 du:Bool
 deriving DecidableEq
def cR.e(x:cR):List D:=[I x.bd,B x.du]
structure cR.wf (x:cR):Prop where
 Iu:aD .i64 x.bd
structure b4 where
 going:Bool
 place:Int
 sum:Int
 bU:Bool
 du:Bool
 deriving DecidableEq
def b4.e(x:b4):List D:=[B x.going,I x.place,I x.sum,B x.bU,B x.du]
structure b4.wf (x:b4):Prop where
 aDm:aD .i64 x.place
 aDs:aD .i64 x.sum
structure b1 where
 dest:Int
 bd:Int
 du:Bool
 deriving DecidableEq
def b1.e(x:b1):List D:=[I x.dest,I x.bd,B x.du]
structure b1.wf (x:b1):Prop where
 aCm:aD .i64 x.dest
 Iu:aD .i64 x.bd
structure cN where
 kind:Int
 a:Int
 b:Int
 deriving DecidableEq
def cN.e(x:cN):List D:=[I x.kind,I x.a,I x.b]
structure cN.wf (x:cN):Prop where
 adD:aD .i64 x.kind
 aaV:aD .i64 x.a
 aaZ:aD .i64 x.b
structure Node where
 kind:Int
 a:Int
 b:Int
 outs:List Int
 deriving DecidableEq
def Node.e(x:Node):List D:=[I x.kind,I x.a,I x.b,.J 1 (x.outs.map bh)]
def fs{α:Type}(sz:α->Nat)(xs:List α):Nat:=xs.length+(xs.map sz).sum
def Node.sz(x:Node):Nat:=x.outs.length
structure Node.wf (x:Node):Prop where
 adD:aD .i64 x.kind
 aaV:aD .i64 x.a
 aaZ:aD .i64 x.b
 aDl:(x.outs.length:Int)<=9223372036854775807/\∀y∈x.outs,aD .i64 y
structure bw where
 cap:Int
 queue:List aq
 eX:Int
 back:Int
 fq:Int
 dy:Int
 deriving DecidableEq
def bw.e(x:bw):List D:=[I x.cap,.J 5 (x.queue.map aq.e),I x.eX,I x.back,I x.fq,I x.dy]
def bw.sz(x:bw):Nat:=x.queue.length
structure bw.wf (x:bw):Prop where
 QI:aD .i64 x.cap
 av3:(x.queue.length:Int)<=9223372036854775807/\∀y∈x.queue,y.wf
 aCl:aD .i64 x.eX
 aCg:aD .i64 x.back
 aDq:aD .i64 x.fq
 QV:aD .i64 x.dy
structure b9 where
 nodes:List Node
 az:Int
 cap:Int
 deriving DecidableEq
def b9.e(x:b9):List D:=[.J 4 (x.nodes.map Node.e),I x.az,I x.cap]
def b9.sz(x:b9):Nat:=fs Node.sz x.nodes
structure b9.wf (x:b9):Prop where
 aDe:(x.nodes.length:Int)<=9223372036854775807/\∀y∈x.nodes,y.wf
 Y2:aD .i64 x.az
 QI:aD .i64 x.cap
structure aP where
 queue:List aq
 cj:List aq
 bO:List aq
 cells:List Cell
 bL:List Int
 bU:List Bool
 bx:List Bool
 b8:List cR
 deriving DecidableEq
def aP.e(x:aP):List D:=[.J 5 (x.queue.map aq.e),.J 5 (x.cj.map aq.e),.J 5 (x.bO.map aq.e),.J 4 (x.cells.map Cell.e),.J 1 (x.bL.map bh),.J 1 (x.bU.map cD),.J 1 (x.bx.map cD),.J 2 (x.b8.map cR.e)]
def aP.sz(x:aP):Nat:=x.queue.length+x.cj.length+x.bO.length+x.cells.length+x.bL.length+x.bU.length+x.bx.length+x.b8.length
structure aP.wf (x:aP):Prop where
 av3:(x.queue.length:Int)<=9223372036854775807/\∀y∈x.queue,y.wf
 aDr:(x.cj.length:Int)<=9223372036854775807/\∀y∈x.cj,y.wf
 aC6:(x.bO.length:Int)<=9223372036854775807/\∀y∈x.bO,y.wf
 aCk:(x.cells.length:Int)<=9223372036854775807/\∀y∈x.cells,y.wf
 aDt:(x.bL.length:Int)<=9223372036854775807/\∀y∈x.bL,aD .i64 y
 aCh:(x.bU.length:Int)<=9223372036854775807
 aCj:(x.bx.length:Int)<=9223372036854775807
 aCn:(x.b8.length:Int)<=9223372036854775807/\∀y∈x.b8,y.wf
structure a' where
 aE:b9
 az:List aP
 bP:List bw
 tokens:List b4
 news:List b1
 deriving DecidableEq
def a'.e(x:a'):List D:=[.J 4 (x.aE.nodes.map Node.e),I x.aE.az,I x.aE.cap,.J 8 (x.az.map aP.e),.J 6 (x.bP.map bw.e),.J 5 (x.tokens.map b4.e),.J 3 (x.news.map b1.e)]
def a'.sz(x:a'):Nat:=x.aE.sz+fs aP.sz x.az+fs bw.sz x.bP+x.tokens.length+x.news.length
structure a'.wf (x:a'):Prop where
 abo:x.aE.wf
 Y2:(x.az.length:Int)<=9223372036854775807/\∀y∈x.az,y.wf
 adG:(x.bP.length:Int)<=9223372036854775807/\∀y∈x.bP,y.wf
 aDw:(x.tokens.length:Int)<=9223372036854775807/\∀y∈x.tokens,y.wf
 V4:(x.news.length:Int)<=9223372036854775807/\∀y∈x.news,y.wf
theorem UC{α:Type}{sz:α->Nat}{xs:List α}{m:Nat}(h:fs sz xs<=m):xs.length<=m:=by unfold fs at h;omega
theorem F8{α:Type}{sz:α->Nat}{xs:List α}{m:Nat}(h:fs sz xs<=m){a:α}(ak:a∈xs):sz a<=m:=by
 have:=Cg (sz:=sz) ak;unfold fs at h;omega
