import Derived.Test.YtdchjefneblpgaaGreatB0
set_option linter.unusedVariables false
set_option linter.unusedSimpArgs false
namespace Go.Proofs.YtdchjefneblpgaaGreat
open Go.Sx Go.RowKit
structure bD where
 a8:Int
 cD:Int
 deriving DecidableEq
def bD.e(x:bD):List D:=[I x.a8,I x.cD]
structure bD.wf (x:bD):Prop where
 Gg:bf .i64 x.a8
 asy:bf .i64 x.cD
structure Count where
 bc:bD
 n:Int
 deriving DecidableEq
def Count.e(x:Count):List D:=[I x.bc.a8,I x.bc.cD,I x.n]
structure Count.wf (x:Count):Prop where
 aqr:x.bc.wf
 asb:bf .i64 x.n
structure aA where
 op:Int
 bc:bD
 key:Int
 val:Int
 deriving DecidableEq
def aA.e(x:aA):List D:=[I x.op,I x.bc.a8,I x.bc.cD,I x.key,I x.val]
structure aA.wf (x:aA):Prop where
 Zp:bf .i64 x.op
 aqr:x.bc.wf
 Y':bf .i64 x.key
 aqI:bf .i64 x.val
structure Cell where
 op:Int
 a8:Int
 key:Int
 val:Int
 deriving DecidableEq
def Cell.e(x:Cell):List D:=[I x.op,I x.a8,I x.key,I x.val]
structure Cell.wf (x:Cell):Prop where
 Zp:bf .i64 x.op
 Gg:bf .i64 x.a8
 Y':bf .i64 x.key
 aqI:bf .i64 x.val
structure dA where
 a8:Int
 ct:Bool
 deriving DecidableEq
def dA.e(x:dA):List D:=[I x.a8,B x.ct]
structure dA.wf (x:dA):Prop where
 Gg:bf .i64 x.a8
structure b' where
 going:Bool
 place:Int
 sum:Int
 bL:Bool
 ct:Bool
 deriving DecidableEq
def b'.e(x:b'):List D:=[B x.going,I x.place,I x.sum,B x.bL,B x.ct]
structure b'.wf (x:b'):Prop where
 asl:bf .i64 x.place
 ast:bf .i64 x.sum
structure cA where
 dest:Int
 a8:Int
 ct:Bool
 deriving DecidableEq
def cA.e(x:cA):List D:=[I x.dest,I x.a8,B x.ct]
structure cA.wf (x:cA):Prop where
 aq7:bf .i64 x.dest
 Gg:bf .i64 x.a8
structure cE where
 kind:Int
 a:Int
 b:Int
 deriving DecidableEq
def cE.e(x:cE):List D:=[I x.kind,I x.a,I x.b]
structure cE.wf (x:cE):Prop where
 Za:bf .i64 x.kind
 We:bf .i64 x.a
 Wj:bf .i64 x.b
structure Node where
 kind:Int
 a:Int
 b:Int
 outs:List Int
 deriving DecidableEq
def Node.e(x:Node):List D:=[I x.kind,I x.a,I x.b,.J 1 (x.outs.map cv)]
def fp{α:Type}(sz:α->Nat)(xs:List α):Nat:=xs.length+(xs.map sz).sum
def Node.sz(x:Node):Nat:=x.outs.length
structure Node.wf (x:Node):Prop where
 Za:bf .i64 x.kind
 We:bf .i64 x.a
 Wj:bf .i64 x.b
 asj:(x.outs.length:Int)<=9223372036854775807/\∀y∈x.outs,bf .i64 y
structure bC where
 cap:Int
 queue:List aA
 fh:Int
 back:Int
 eV:Int
 dO:Int
 deriving DecidableEq
def bC.e(x:bC):List D:=[I x.cap,.J 5 (x.queue.map aA.e),I x.fh,I x.back,I x.eV,I x.dO]
def bC.sz(x:bC):Nat:=x.queue.length
structure bC.wf (x:bC):Prop where
 MS:bf .i64 x.cap
 akS:(x.queue.length:Int)<=9223372036854775807/\∀y∈x.queue,y.wf
 aq6:bf .i64 x.fh
 aq1:bf .i64 x.back
 asq:bf .i64 x.eV
 M3:bf .i64 x.dO
structure bW where
 nodes:List Node
 ap:Int
 cap:Int
 deriving DecidableEq
def bW.e(x:bW):List D:=[.J 4 (x.nodes.map Node.e),I x.ap,I x.cap]
def bW.sz(x:bW):Nat:=fp Node.sz x.nodes
structure bW.wf (x:bW):Prop where
 asc:(x.nodes.length:Int)<=9223372036854775807/\∀y∈x.nodes,y.wf
 Vi:bf .i64 x.ap
 MS:bf .i64 x.cap
structure aP where
 queue:List aA
 ck:List aA
 bT:List aA
 cells:List Cell
 bK:List Int
 bL:List Bool
 bA:List Bool
 cu:List dA
 deriving DecidableEq
def aP.e(x:aP):List D:=[.J 5 (x.queue.map aA.e),.J 5 (x.ck.map aA.e),.J 5 (x.bT.map aA.e),.J 4 (x.cells.map Cell.e),.J 1 (x.bK.map cv),.J 1 (x.bL.map c6),.J 1 (x.bA.map c6),.J 2 (x.cu.map dA.e)]
def aP.sz(x:aP):Nat:=x.queue.length+x.ck.length+x.bT.length+x.cells.length+x.bK.length+x.bL.length+x.bA.length+x.cu.length
structure aP.wf (x:aP):Prop where
 akS:(x.queue.length:Int)<=9223372036854775807/\∀y∈x.queue,y.wf
 asr:(x.ck.length:Int)<=9223372036854775807/\∀y∈x.ck,y.wf
 ar3:(x.bT.length:Int)<=9223372036854775807/\∀y∈x.bT,y.wf
 aq5:(x.cells.length:Int)<=9223372036854775807/\∀y∈x.cells,y.wf
 asu:(x.bK.length:Int)<=9223372036854775807/\∀y∈x.bK,bf .i64 y
 aq2:(x.bL.length:Int)<=9223372036854775807
 aq4:(x.bA.length:Int)<=9223372036854775807
 aq8:(x.cu.length:Int)<=9223372036854775807/\∀y∈x.cu,y.wf
structure aU where
 aF:bW
 ap:List aP
 bQ:List bC
 tokens:List b'
 news:List cA
 deriving DecidableEq
def aU.e(x:aU):List D:=[.J 4 (x.aF.nodes.map Node.e),I x.aF.ap,I x.aF.cap,.J 8 (x.ap.map aP.e),.J 6 (x.bQ.map bC.e),.J 5 (x.tokens.map b'.e),.J 3 (x.news.map cA.e)]
def aU.sz(x:aU):Nat:=x.aF.sz+fp aP.sz x.ap+fp bC.sz x.bQ+x.tokens.length+x.news.length
structure aU.wf (x:aU):Prop where
 WO:x.aF.wf
 Vi:(x.ap.length:Int)<=9223372036854775807/\∀y∈x.ap,y.wf
 Zc:(x.bQ.length:Int)<=9223372036854775807/\∀y∈x.bQ,y.wf
 asx:(x.tokens.length:Int)<=9223372036854775807/\∀y∈x.tokens,y.wf
 To:(x.news.length:Int)<=9223372036854775807/\∀y∈x.news,y.wf
theorem PZ{α:Type}{sz:α->Nat}{xs:List α}{m:Nat}(h:fp sz xs<=m):xs.length<=m:=by unfold fp at h;omega
theorem EO{α:Type}{sz:α->Nat}{xs:List α}{m:Nat}(h:fp sz xs<=m){a:α}(ag:a∈xs):sz a<=m:=by
 have:=yn (sz:=sz) ag;unfold fp at h;omega
