import Derived.Test.YtdchjefneblpgaaGreatB0
set_option linter.unusedVariables false
set_option linter.unusedSimpArgs false
namespace Go.Proofs.YtdchjefneblpgaaGreat
open Go.Sx Go.RowKit
structure hT where
 a7:Int
 dh:Int
 deriving DecidableEq
def hT.e(x:hT):List D:=[I x.a7,I x.dh]
structure hT.wf (x:hT):Prop where
 HV:aC .i64 x.a7
 axo:aC .i64 x.dh
structure Count where
 bh:hT
 n:Int
 deriving DecidableEq
def Count.e(x:Count):List D:=[I x.bh.a7,I x.bh.dh,I x.n]
structure Count.wf (x:Count):Prop where
 avf:x.bh.wf
 aw6:aC .i64 x.n
structure aE where
 op:Int
 bh:hT
 key:Int
 val:Int
 deriving DecidableEq
def aE.e(x:aE):List D:=[I x.op,I x.bh.a7,I x.bh.dh,I x.key,I x.val]
structure aE.wf (x:aE):Prop where
 aa5:aC .i64 x.op
 avf:x.bh.wf
 aaP:aC .i64 x.key
 avv:aC .i64 x.val
structure Cell where
 op:Int
 a7:Int
 key:Int
 val:Int
 deriving DecidableEq
def Cell.e(x:Cell):List D:=[I x.op,I x.a7,I x.key,I x.val]
structure Cell.wf (x:Cell):Prop where
 aa5:aC .i64 x.op
 HV:aC .i64 x.a7
 aaP:aC .i64 x.key
 avv:aC .i64 x.val
structure cD where
 a7:Int
 ca:Bool
 deriving DecidableEq
def cD.e(x:cD):List D:=[I x.a7,B x.ca]
structure cD.wf (x:cD):Prop where
 HV:aC .i64 x.a7
structure bQ where
 going:Bool
 place:Int
 sum:Int
 bV:Bool
 ca:Bool
 deriving DecidableEq
def bQ.e(x:bQ):List D:=[B x.going,I x.place,I x.sum,B x.bV,B x.ca]
structure bQ.wf (x:bQ):Prop where
 axd:aC .i64 x.place
 axk:aC .i64 x.sum
structure bT where
 dest:Int
 a7:Int
 ca:Bool
 deriving DecidableEq
def bT.e(x:bT):List D:=[I x.dest,I x.a7,B x.ca]
structure bT.wf (x:bT):Prop where
 awg:aC .i64 x.dest
 HV:aC .i64 x.a7
structure b9 where
 kind:Int
 a:Int
 b:Int
 deriving DecidableEq
def b9.e(x:b9):List D:=[I x.kind,I x.a,I x.b]
structure b9.wf (x:b9):Prop where
 aaQ:aC .i64 x.kind
 X7:aC .i64 x.a
 X':aC .i64 x.b
structure Node where
 kind:Int
 a:Int
 b:Int
 outs:List Int
 deriving DecidableEq
def Node.e(x:Node):List D:=[I x.kind,I x.a,I x.b,.J 1 (x.outs.map ba)]
def iV{α:Type}(sz:α->Nat)(xs:List α):Nat:=xs.length+(xs.map sz).sum
def Node.sz(x:Node):Nat:=x.outs.length
structure Node.wf (x:Node):Prop where
 aaQ:aC .i64 x.kind
 X7:aC .i64 x.a
 X':aC .i64 x.b
 axc:(x.outs.length:Int)<=9223372036854775807/\∀y∈x.outs,aC .i64 y
structure bt where
 cap:Int
 queue:List aE
 eC:Int
 back:Int
 eF:Int
 dZ:Int
 deriving DecidableEq
def bt.e(x:bt):List D:=[I x.cap,.J 5 (x.queue.map aE.e),I x.eC,I x.back,I x.eF,I x.dZ]
def bt.sz(x:bt):Nat:=x.queue.length
structure bt.wf (x:bt):Prop where
 OT:aC .i64 x.cap
 apJ:(x.queue.length:Int)<=9223372036854775807/\∀y∈x.queue,y.wf
 awe:aC .i64 x.eC
 av9:aC .i64 x.back
 axh:aC .i64 x.eF
 O6:aC .i64 x.dZ
structure b0 where
 nodes:List Node
 aq:Int
 cap:Int
 deriving DecidableEq
def b0.e(x:b0):List D:=[.J 4 (x.nodes.map Node.e),I x.aq,I x.cap]
def b0.sz(x:b0):Nat:=iV Node.sz x.nodes
structure b0.wf (x:b0):Prop where
 aw7:(x.nodes.length:Int)<=9223372036854775807/\∀y∈x.nodes,y.wf
 Wi:aC .i64 x.aq
 OT:aC .i64 x.cap
structure aL where
 queue:List aE
 cp:List aE
 bZ:List aE
 cells:List Cell
 bM:List Int
 bV:List Bool
 bm:List Bool
 b1:List cD
 deriving DecidableEq
def aL.e(x:aL):List D:=[.J 5 (x.queue.map aE.e),.J 5 (x.cp.map aE.e),.J 5 (x.bZ.map aE.e),.J 4 (x.cells.map Cell.e),.J 1 (x.bM.map ba),.J 1 (x.bV.map cI),.J 1 (x.bm.map cI),.J 2 (x.b1.map cD.e)]
def aL.sz(x:aL):Nat:=x.queue.length+x.cp.length+x.bZ.length+x.cells.length+x.bM.length+x.bV.length+x.bm.length+x.b1.length
structure aL.wf (x:aL):Prop where
 apJ:(x.queue.length:Int)<=9223372036854775807/\∀y∈x.queue,y.wf
 axi:(x.cp.length:Int)<=9223372036854775807/\∀y∈x.cp,y.wf
 aw2:(x.bZ.length:Int)<=9223372036854775807/\∀y∈x.bZ,y.wf
 awd:(x.cells.length:Int)<=9223372036854775807/\∀y∈x.cells,y.wf
 axl:(x.bM.length:Int)<=9223372036854775807/\∀y∈x.bM,aC .i64 y
 awa:(x.bV.length:Int)<=9223372036854775807
 awc:(x.bm.length:Int)<=9223372036854775807
 awh:(x.b1.length:Int)<=9223372036854775807/\∀y∈x.b1,y.wf
structure aU where
 ay:b0
 aq:List aL
 bK:List bt
 tokens:List bQ
 news:List bT
 deriving DecidableEq
def aU.e(x:aU):List D:=[.J 4 (x.ay.nodes.map Node.e),I x.ay.aq,I x.ay.cap,.J 8 (x.aq.map aL.e),.J 6 (x.bK.map bt.e),.J 5 (x.tokens.map bQ.e),.J 3 (x.news.map bT.e)]
def aU.sz(x:aU):Nat:=x.ay.sz+iV aL.sz x.aq+iV bt.sz x.bK+x.tokens.length+x.news.length
structure aU.wf (x:aU):Prop where
 Yy:x.ay.wf
 Wi:(x.aq.length:Int)<=9223372036854775807/\∀y∈x.aq,y.wf
 aaW:(x.bK.length:Int)<=9223372036854775807/\∀y∈x.bK,y.wf
 axn:(x.tokens.length:Int)<=9223372036854775807/\∀y∈x.tokens,y.wf
 UG:(x.news.length:Int)<=9223372036854775807/\∀y∈x.news,y.wf
theorem F5{α:Type}{sz:α->Nat}{xs:List α}{m:Nat}(h:iV sz xs<=m){a:α}(ad:a∈xs):sz a<=m:=by
 have:=F4 (sz:=sz) ad;unfold iV at h;omega
