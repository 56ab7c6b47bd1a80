import Derived.Test.YtdchjefneblpgaaGreatB0
set_option linter.unusedVariables false
set_option linter.unusedSimpArgs false
namespace Go.Proofs.YtdchjefneblpgaaGreat
open Go.Sx Go.RowKit
structure gd where
 bc:Int
 dT:Int
 deriving DecidableEq
def gd.e(x:gd):List D:=[I x.bc,I x.dT]
structure gd.wf (x:gd):Prop where
 Fb:aJ .i64 x.bc
 auN:aJ .i64 x.dT
structure Count where
 bp:gd
 n:Int
 deriving DecidableEq
def Count.e(x:Count):List D:=[I x.bp.bc,I x.bp.dT,I x.n]
structure Count.wf (x:Count):Prop where
 ash:x.bp.wf
 auu:aJ .i64 x.n
structure aB where
 op:Int
 bp:gd
 key:Int
 val:Int
 deriving DecidableEq
def aB.e(x:aB):List D:=[I x.op,I x.bp.bc,I x.bp.dT,I x.key,I x.val]
structure aB.wf (x:aB):Prop where
 Yd:aJ .i64 x.op
 ash:x.bp.wf
 X2:aJ .i64 x.key
 asz:aJ .i64 x.val
structure Cell where
 op:Int
 bc:Int
 key:Int
 val:Int
 deriving DecidableEq
def Cell.e(x:Cell):List D:=[I x.op,I x.bc,I x.key,I x.val]
structure Cell.wf (x:Cell):Prop where
 Yd:aJ .i64 x.op
 Fb:aJ .i64 x.bc
 X2:aJ .i64 x.key
 asz:aJ .i64 x.val
structure cw where
 bc:Int
 dm:Bool
 deriving DecidableEq
def cw.e(x:cw):List D:=[I x.bc,B x.dm]
structure cw.wf (x:cw):Prop where
 Fb:aJ .i64 x.bc
structure bW where
 going:Bool
 place:Int
 sum:Int
 bO:Bool
 dm:Bool
 deriving DecidableEq
def bW.e(x:bW):List D:=[B x.going,I x.place,I x.sum,B x.bO,B x.dm]
structure bW.wf (x:bW):Prop where
 auD:aJ .i64 x.place
 auJ:aJ .i64 x.sum
structure b7 where
 dest:Int
 bc:Int
 dm:Bool
 deriving DecidableEq
def b7.e(x:b7):List D:=[I x.dest,I x.bc,B x.dm]
structure b7.wf (x:b7):Prop where
 ati:aJ .i64 x.dest
 Fb:aJ .i64 x.bc
structure c9 where
 kind:Int
 a:Int
 b:Int
 deriving DecidableEq
def c9.e(x:c9):List D:=[I x.kind,I x.a,I x.b]
structure c9.wf (x:c9):Prop where
 X3:aJ .i64 x.kind
 Vx:aJ .i64 x.a
 VB:aJ .i64 x.b
structure Node where
 kind:Int
 a:Int
 b:Int
 outs:List Int
 deriving DecidableEq
def Node.e(x:Node):List D:=[I x.kind,I x.a,I x.b,.J 1 (x.outs.map a6)]
def eZ{α:Type}(sz:α->Nat)(xs:List α):Nat:=xs.length+(xs.map sz).sum
def Node.sz(x:Node):Nat:=x.outs.length
structure Node.wf (x:Node):Prop where
 X3:aJ .i64 x.kind
 Vx:aJ .i64 x.a
 VB:aJ .i64 x.b
 auB:(x.outs.length:Int)<=9223372036854775807/\∀y∈x.outs,aJ .i64 y
structure bu where
 cap:Int
 queue:List aB
 eO:Int
 back:Int
 fg:Int
 dh:Int
 deriving DecidableEq
def bu.e(x:bu):List D:=[I x.cap,.J 5 (x.queue.map aB.e),I x.eO,I x.back,I x.fg,I x.dh]
def bu.sz(x:bu):Nat:=x.queue.length
structure bu.wf (x:bu):Prop where
 Mw:aJ .i64 x.cap
 amI:(x.queue.length:Int)<=9223372036854775807/\∀y∈x.queue,y.wf
 ath:aJ .i64 x.eO
 atc:aJ .i64 x.back
 auH:aJ .i64 x.fg
 MF:aJ .i64 x.dh
structure bR where
 nodes:List Node
 ay:Int
 cap:Int
 deriving DecidableEq
def bR.e(x:bR):List D:=[.J 4 (x.nodes.map Node.e),I x.ay,I x.cap]
def bR.sz(x:bR):Nat:=eZ Node.sz x.nodes
structure bR.wf (x:bR):Prop where
 auv:(x.nodes.length:Int)<=9223372036854775807/\∀y∈x.nodes,y.wf
 TS:aJ .i64 x.ay
 Mw:aJ .i64 x.cap
structure aR where
 queue:List aB
 ch:List aB
 b3:List aB
 cells:List Cell
 bF:List Int
 bO:List Bool
 br:List Bool
 bZ:List cw
 deriving DecidableEq
def aR.e(x:aR):List D:=[.J 5 (x.queue.map aB.e),.J 5 (x.ch.map aB.e),.J 5 (x.b3.map aB.e),.J 4 (x.cells.map Cell.e),.J 1 (x.bF.map a6),.J 1 (x.bO.map cq),.J 1 (x.br.map cq),.J 2 (x.bZ.map cw.e)]
def aR.sz(x:aR):Nat:=x.queue.length+x.ch.length+x.b3.length+x.cells.length+x.bF.length+x.bO.length+x.br.length+x.bZ.length
structure aR.wf (x:aR):Prop where
 amI:(x.queue.length:Int)<=9223372036854775807/\∀y∈x.queue,y.wf
 auI:(x.ch.length:Int)<=9223372036854775807/\∀y∈x.ch,y.wf
 aun:(x.b3.length:Int)<=9223372036854775807/\∀y∈x.b3,y.wf
 atg:(x.cells.length:Int)<=9223372036854775807/\∀y∈x.cells,y.wf
 auK:(x.bF.length:Int)<=9223372036854775807/\∀y∈x.bF,aJ .i64 y
 atd:(x.bO.length:Int)<=9223372036854775807
 atf:(x.br.length:Int)<=9223372036854775807
 atj:(x.bZ.length:Int)<=9223372036854775807/\∀y∈x.bZ,y.wf
structure bb where
 aC:bR
 ay:List aR
 bV:List bu
 tokens:List bW
 news:List b7
 deriving DecidableEq
def bb.e(x:bb):List D:=[.J 4 (x.aC.nodes.map Node.e),I x.aC.ay,I x.aC.cap,.J 8 (x.ay.map aR.e),.J 6 (x.bV.map bu.e),.J 5 (x.tokens.map bW.e),.J 3 (x.news.map b7.e)]
def bb.sz(x:bb):Nat:=x.aC.sz+eZ aR.sz x.ay+eZ bu.sz x.bV+x.tokens.length+x.news.length
structure bb.wf (x:bb):Prop where
 V3:x.aC.wf
 TS:(x.ay.length:Int)<=9223372036854775807/\∀y∈x.ay,y.wf
 X5:(x.bV.length:Int)<=9223372036854775807/\∀y∈x.bV,y.wf
 auM:(x.tokens.length:Int)<=9223372036854775807/\∀y∈x.tokens,y.wf
 Sd:(x.news.length:Int)<=9223372036854775807/\∀y∈x.news,y.wf
theorem wW{α:Type}{sz:α->Nat}{xs:List α}{m:Nat}(h:eZ sz xs<=m):xs.length<=m:=by unfold eZ at h;omega
theorem ta{α:Type}{sz:α->Nat}{xs:List α}{m:Nat}(h:eZ sz xs<=m){a:α}(ag:a∈xs):sz a<=m:=by
 have:=CH (sz:=sz) ag;unfold eZ at h;omega
