import Derived.Test.YtdchjefneblpgaaGreatB0
set_option linter.unusedVariables false
set_option linter.unusedSimpArgs false
namespace Go.Proofs.YtdchjefneblpgaaGreat
open Go.Sx Go.RowKit
structure gd where
 bc:Int
 dT:Int
 deriving DecidableEq
def gd.e(x:gd):List D:=[I x.bc,I x.dT]
structure gd.wf (x:gd):Prop where
 Fa:aI .i64 x.bc
 auN:aI .i64 x.dT
structure Count where
 bp:gd
 n:Int
 deriving DecidableEq
def Count.e(x:Count):List D:=[I x.bp.bc,I x.bp.dT,I x.n]
structure Count.wf (x:Count):Prop where
 asd:x.bp.wf
 auu:aI .i64 x.n
structure aB where
 op:Int
 bp:gd
 key:Int
 val:Int
 deriving DecidableEq
def aB.e(x:aB):List D:=[I x.op,I x.bp.bc,I x.bp.dT,I x.key,I x.val]
structure aB.wf (x:aB):Prop where
 X':aI .i64 x.op
 asd:x.bp.wf
 XY:aI .i64 x.key
 asv:aI .i64 x.val
structure Cell where
 op:Int
 bc:Int
 key:Int
 val:Int
 deriving DecidableEq
def Cell.e(x:Cell):List D:=[I x.op,I x.bc,I x.key,I x.val]
structure Cell.wf (x:Cell):Prop where
 X':aI .i64 x.op
 Fa:aI .i64 x.bc
 XY:aI .i64 x.key
 asv:aI .i64 x.val
structure cw where
 bc:Int
 dm:Bool
 deriving DecidableEq
def cw.e(x:cw):List D:=[I x.bc,B x.dm]
structure cw.wf (x:cw):Prop where
 Fa:aI .i64 x.bc
structure bV where
 going:Bool
 place:Int
 sum:Int
 bO:Bool
 dm:Bool
 deriving DecidableEq
def bV.e(x:bV):List D:=[B x.going,I x.place,I x.sum,B x.bO,B x.dm]
structure bV.wf (x:bV):Prop where
 auD:aI .i64 x.place
 auJ:aI .i64 x.sum
structure b7 where
 dest:Int
 bc:Int
 dm:Bool
 deriving DecidableEq
def b7.e(x:b7):List D:=[I x.dest,I x.bc,B x.dm]
structure b7.wf (x:b7):Prop where
 atf:aI .i64 x.dest
 Fa:aI .i64 x.bc
structure c9 where
 kind:Int
 a:Int
 b:Int
 deriving DecidableEq
def c9.e(x:c9):List D:=[I x.kind,I x.a,I x.b]
structure c9.wf (x:c9):Prop where
 XZ:aI .i64 x.kind
 Vw:aI .i64 x.a
 VA:aI .i64 x.b
structure Node where
 kind:Int
 a:Int
 b:Int
 outs:List Int
 deriving DecidableEq
def Node.e(x:Node):List D:=[I x.kind,I x.a,I x.b,.J 1 (x.outs.map a6)]
def eZ{α:Type}(sz:α->Nat)(xs:List α):Nat:=xs.length+(xs.map sz).sum
def Node.sz(x:Node):Nat:=x.outs.length
structure Node.wf (x:Node):Prop where
 XZ:aI .i64 x.kind
 Vw:aI .i64 x.a
 VA:aI .i64 x.b
 auB:(x.outs.length:Int)<=9223372036854775807/\∀y∈x.outs,aI .i64 y
structure bu where
 cap:Int
 queue:List aB
 eO:Int
 back:Int
 fg:Int
 dh:Int
 deriving DecidableEq
def bu.e(x:bu):List D:=[I x.cap,.J 5 (x.queue.map aB.e),I x.eO,I x.back,I x.fg,I x.dh]
def bu.sz(x:bu):Nat:=x.queue.length
structure bu.wf (x:bu):Prop where
 Mu:aI .i64 x.cap
 amE:(x.queue.length:Int)<=9223372036854775807/\∀y∈x.queue,y.wf
 ate:aI .i64 x.eO
 as9:aI .i64 x.back
 auH:aI .i64 x.fg
 MD:aI .i64 x.dh
structure bR where
 nodes:List Node
 ay:Int
 cap:Int
 deriving DecidableEq
def bR.e(x:bR):List D:=[.J 4 (x.nodes.map Node.e),I x.ay,I x.cap]
def bR.sz(x:bR):Nat:=eZ Node.sz x.nodes
structure bR.wf (x:bR):Prop where
 auv:(x.nodes.length:Int)<=9223372036854775807/\∀y∈x.nodes,y.wf
 TQ:aI .i64 x.ay
 Mu:aI .i64 x.cap
structure aR where
 queue:List aB
 cg:List aB
 b3:List aB
 cells:List Cell
 bF:List Int
 bO:List Bool
 br:List Bool
 bZ:List cw
 deriving DecidableEq
def aR.e(x:aR):List D:=[.J 5 (x.queue.map aB.e),.J 5 (x.cg.map aB.e),.J 5 (x.b3.map aB.e),.J 4 (x.cells.map Cell.e),.J 1 (x.bF.map a6),.J 1 (x.bO.map cq),.J 1 (x.br.map cq),.J 2 (x.bZ.map cw.e)]
def aR.sz(x:aR):Nat:=x.queue.length+x.cg.length+x.b3.length+x.cells.length+x.bF.length+x.bO.length+x.br.length+x.bZ.length
structure aR.wf (x:aR):Prop where
 amE:(x.queue.length:Int)<=9223372036854775807/\∀y∈x.queue,y.wf
 auI:(x.cg.length:Int)<=9223372036854775807/\∀y∈x.cg,y.wf
 aun:(x.b3.length:Int)<=9223372036854775807/\∀y∈x.b3,y.wf
 atd:(x.cells.length:Int)<=9223372036854775807/\∀y∈x.cells,y.wf
 auK:(x.bF.length:Int)<=9223372036854775807/\∀y∈x.bF,aI .i64 y
 ata:(x.bO.length:Int)<=9223372036854775807
 atc:(x.br.length:Int)<=9223372036854775807
 atg:(x.bZ.length:Int)<=9223372036854775807/\∀y∈x.bZ,y.wf
structure bb where
 aC:bR
 ay:List aR
 bW:List bu
 tokens:List bV
 news:List b7
 deriving DecidableEq
def bb.e(x:bb):List D:=[.J 4 (x.aC.nodes.map Node.e),I x.aC.ay,I x.aC.cap,.J 8 (x.ay.map aR.e),.J 6 (x.bW.map bu.e),.J 5 (x.tokens.map bV.e),.J 3 (x.news.map b7.e)]
def bb.sz(x:bb):Nat:=x.aC.sz+eZ aR.sz x.ay+eZ bu.sz x.bW+x.tokens.length+x.news.length
structure bb.wf (x:bb):Prop where
 VZ:x.aC.wf
 TQ:(x.ay.length:Int)<=9223372036854775807/\∀y∈x.ay,y.wf
 X1:(x.bW.length:Int)<=9223372036854775807/\∀y∈x.bW,y.wf
 auM:(x.tokens.length:Int)<=9223372036854775807/\∀y∈x.tokens,y.wf
 Sb:(x.news.length:Int)<=9223372036854775807/\∀y∈x.news,y.wf
theorem wV{α:Type}{sz:α->Nat}{xs:List α}{m:Nat}(h:eZ sz xs<=m):xs.length<=m:=by unfold eZ at h;omega
theorem s'{α:Type}{sz:α->Nat}{xs:List α}{m:Nat}(h:eZ sz xs<=m){a:α}(ah:a∈xs):sz a<=m:=by
 have:=CF (sz:=sz) ah;unfold eZ at h;omega
