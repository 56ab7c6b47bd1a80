import Derived.Test.YtdchjefneblpgaaGreatB0
set_option linter.unusedVariables false
set_option linter.unusedSimpArgs false
namespace Go.Proofs.YtdchjefneblpgaaGreat
open Go.Sx Go.RowKit
structure gr where
 bf:Int
 dS:Int
 deriving DecidableEq
def gr.e(x:gr):List D:=[I x.bf,I x.dS]
structure gr.wf (x:gr):Prop where
 FB:az .i64 x.bf
 aub:az .i64 x.dS
structure Count where
 bx:gr
 n:Int
 deriving DecidableEq
def Count.e(x:Count):List D:=[I x.bx.bf,I x.bx.dS,I x.n]
structure Count.wf (x:Count):Prop where
 asa:x.bx.wf
 atS:az .i64 x.n
structure aA where
 op:Int
 bx:gr
 key:Int
 val:Int
 deriving DecidableEq
def aA.e(x:aA):List D:=[I x.op,I x.bx.bf,I x.bx.dS,I x.key,I x.val]
structure aA.wf (x:aA):Prop where
 YF:az .i64 x.op
 asa:x.bx.wf
 Yt:az .i64 x.key
 asu:az .i64 x.val
structure Cell where
 op:Int
 bf:Int
 key:Int
 val:Int
 deriving DecidableEq
def Cell.e(x:Cell):List D:=[I x.op,I x.bf,I x.key,I x.val]
structure Cell.wf (x:Cell):Prop where
 YF:az .i64 x.op
 FB:az .i64 x.bf
 Yt:az .i64 x.key
 asu:az .i64 x.val
structure cD where
 bf:Int
 dT:Bool
 deriving DecidableEq
def cD.e(x:cD):List D:=[I x.bf,B x.dT]
structure cD.wf (x:cD):Prop where
 FB:az .i64 x.bf
structure b2 where
 going:Bool
 place:Int
 sum:Int
 bU:Bool
 dT:Bool
 deriving DecidableEq
def b2.e(x:b2):List D:=[B x.going,I x.place,I x.sum,B x.bU,B x.dT]
structure b2.wf (x:b2):Prop where
 atZ:az .i64 x.place
 at6:az .i64 x.sum
structure cb where
 dest:Int
 bf:Int
 dT:Bool
 deriving DecidableEq
def cb.e(x:cb):List D:=[I x.dest,I x.bf,B x.dT]
structure cb.wf (x:cb):Prop where
 as9:az .i64 x.dest
 FB:az .i64 x.bf
structure df where
 kind:Int
 a:Int
 b:Int
 deriving DecidableEq
def df.e(x:df):List D:=[I x.kind,I x.a,I x.b]
structure df.wf (x:df):Prop where
 Yu:az .i64 x.kind
 V7:az .i64 x.a
 V':az .i64 x.b
structure Node where
 kind:Int
 a:Int
 b:Int
 outs:List Int
 deriving DecidableEq
def Node.e(x:Node):List D:=[I x.kind,I x.a,I x.b,.J 1 (x.outs.map a8)]
def eZ{α:Type}(sz:α->Nat)(xs:List α):Nat:=xs.length+(xs.map sz).sum
def Node.sz(x:Node):Nat:=x.outs.length
structure Node.wf (x:Node):Prop where
 Yu:az .i64 x.kind
 V7:az .i64 x.a
 V':az .i64 x.b
 atY:(x.outs.length:Int)<=9223372036854775807/\∀y∈x.outs,az .i64 y
structure bt where
 cap:Int
 queue:List aA
 eo:Int
 back:Int
 eQ:Int
 c5:Int
 deriving DecidableEq
def bt.e(x:bt):List D:=[I x.cap,.J 5 (x.queue.map aA.e),I x.eo,I x.back,I x.eQ,I x.c5]
def bt.sz(x:bt):Nat:=x.queue.length
structure bt.wf (x:bt):Prop where
 MT:az .i64 x.cap
 amC:(x.queue.length:Int)<=9223372036854775807/\∀y∈x.queue,y.wf
 as8:az .i64 x.eo
 as2:az .i64 x.back
 at4:az .i64 x.eQ
 M3:az .i64 x.c5
structure b1 where
 nodes:List Node
 ay:Int
 cap:Int
 deriving DecidableEq
def b1.e(x:b1):List D:=[.J 4 (x.nodes.map Node.e),I x.ay,I x.cap]
def b1.sz(x:b1):Nat:=eZ Node.sz x.nodes
structure b1.wf (x:b1):Prop where
 atT:(x.nodes.length:Int)<=9223372036854775807/\∀y∈x.nodes,y.wf
 Ur:az .i64 x.ay
 MT:az .i64 x.cap
structure aP where
 queue:List aA
 cg:List aA
 b8:List aA
 cells:List Cell
 bH:List Int
 bU:List Bool
 bK:List Bool
 b':List cD
 deriving DecidableEq
def aP.e(x:aP):List D:=[.J 5 (x.queue.map aA.e),.J 5 (x.cg.map aA.e),.J 5 (x.b8.map aA.e),.J 4 (x.cells.map Cell.e),.J 1 (x.bH.map a8),.J 1 (x.bU.map cu),.J 1 (x.bK.map cu),.J 2 (x.b'.map cD.e)]
def aP.sz(x:aP):Nat:=x.queue.length+x.cg.length+x.b8.length+x.cells.length+x.bH.length+x.bU.length+x.bK.length+x.b'.length
structure aP.wf (x:aP):Prop where
 amC:(x.queue.length:Int)<=9223372036854775807/\∀y∈x.queue,y.wf
 at5:(x.cg.length:Int)<=9223372036854775807/\∀y∈x.cg,y.wf
 atK:(x.b8.length:Int)<=9223372036854775807/\∀y∈x.b8,y.wf
 as7:(x.cells.length:Int)<=9223372036854775807/\∀y∈x.cells,y.wf
 at7:(x.bH.length:Int)<=9223372036854775807/\∀y∈x.bH,az .i64 y
 as4:(x.bU.length:Int)<=9223372036854775807
 as6:(x.bK.length:Int)<=9223372036854775807
 ata:(x.b'.length:Int)<=9223372036854775807/\∀y∈x.b',y.wf
structure bb where
 aF:b1
 ay:List aP
 bV:List bt
 tokens:List b2
 news:List cb
 deriving DecidableEq
def bb.e(x:bb):List D:=[.J 4 (x.aF.nodes.map Node.e),I x.aF.ay,I x.aF.cap,.J 8 (x.ay.map aP.e),.J 6 (x.bV.map bt.e),.J 5 (x.tokens.map b2.e),.J 3 (x.news.map cb.e)]
def bb.sz(x:bb):Nat:=x.aF.sz+eZ aP.sz x.ay+eZ bt.sz x.bV+x.tokens.length+x.news.length
structure bb.wf (x:bb):Prop where
 Wy:x.aF.wf
 Ur:(x.ay.length:Int)<=9223372036854775807/\∀y∈x.ay,y.wf
 Yw:(x.bV.length:Int)<=9223372036854775807/\∀y∈x.bV,y.wf
 aua:(x.tokens.length:Int)<=9223372036854775807/\∀y∈x.tokens,y.wf
 RM:(x.news.length:Int)<=9223372036854775807/\∀y∈x.news,y.wf
theorem zB{α:Type}{sz:α->Nat}{xs:List α}{m:Nat}(h:eZ sz xs<=m):xs.length<=m:=by unfold eZ at h;omega
theorem vP{α:Type}{sz:α->Nat}{xs:List α}{m:Nat}(h:eZ sz xs<=m){a:α}(aj:a∈xs):sz a<=m:=by
 have:=C1 (sz:=sz) aj;unfold eZ at h;omega
