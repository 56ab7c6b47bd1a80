import Derived.Test.YthfnndblgbjniaaGreatDoorB0
set_option linter.unusedVariables false
set_option linter.unusedSimpArgs false
namespace Go.Proofs.YthfnndblgbjniaaGreatDoor
open Go.Sx Go.RowKit
structure gY where
 bh:Int
 ei:Int
 deriving DecidableEq
def gY.e(x:gY):List D:=[I x.bh,I x.ei]
structure gY.wf (x:gY):Prop where
 GJ:aK .i64 x.bh
 ayS:aK .i64 x.ei
structure Count where
 bw:gY
 n:Int
 deriving DecidableEq
def Count.e(x:Count):List D:=[I x.bw.bh,I x.bw.ei,I x.n]
structure Count.wf (x:Count):Prop where
 awy:x.bw.wf
 ayA:aK .i64 x.n
structure aD where
 op:Int
 bw:gY
 key:Int
 val:Int
 deriving DecidableEq
def aD.e(x:aD):List D:=[I x.op,I x.bw.bh,I x.bw.ei,I x.key,I x.val]
structure aD.wf (x:aD):Prop where
 aaf:aK .i64 x.op
 awy:x.bw.wf
 Z0:aK .i64 x.key
 awL:aK .i64 x.val
structure Cell where
 op:Int
 bh:Int
 key:Int
 val:Int
 deriving DecidableEq
def Cell.e(x:Cell):List D:=[I x.op,I x.bh,I x.key,I x.val]
structure Cell.wf (x:Cell):Prop where
 aaf:aK .i64 x.op
 GJ:aK .i64 x.bh
 Z0:aK .i64 x.key
 awL:aK .i64 x.val
structure cz where
 bh:Int
 dx:Bool
 deriving DecidableEq
def cz.e(x:cz):List D:=[I x.bh,B x.dx]
structure cz.wf (x:cz):Prop where
 GJ:aK .i64 x.bh
structure bW where
 going:Bool
 place:Int
 sum:Int
 bV:Bool
 dx:Bool
 deriving DecidableEq
def bW.e(x:bW):List D:=[B x.going,I x.place,I x.sum,B x.bV,B x.dx]
structure bW.wf (x:bW):Prop where
 ayI:aK .i64 x.place
 ayO:aK .i64 x.sum
structure bR where
 dest:Int
 bh:Int
 dx:Bool
 deriving DecidableEq
def bR.e(x:bR):List D:=[I x.dest,I x.bh,B x.dx]
structure bR.wf (x:bR):Prop where
 axp:aK .i64 x.dest
 GJ:aK .i64 x.bh
structure cf where
 kind:Int
 a:Int
 b:Int
 deriving DecidableEq
def cf.e(x:cf):List D:=[I x.kind,I x.a,I x.b]
structure cf.wf (x:cf):Prop where
 Z1:aK .i64 x.kind
 XJ:aK .i64 x.a
 XM:aK .i64 x.b
structure Node where
 kind:Int
 a:Int
 b:Int
 outs:List Int
 deriving DecidableEq
def Node.e(x:Node):List D:=[I x.kind,I x.a,I x.b,.J 1 (x.outs.map bb)]
def fr{α:Type}(sz:α->Nat)(xs:List α):Nat:=xs.length+(xs.map sz).sum
def Node.sz(x:Node):Nat:=x.outs.length
structure Node.wf (x:Node):Prop where
 Z1:aK .i64 x.kind
 XJ:aK .i64 x.a
 XM:aK .i64 x.b
 ayG:(x.outs.length:Int)<=9223372036854775807/\∀y∈x.outs,aK .i64 y
structure br where
 cap:Int
 queue:List aD
 eH:Int
 back:Int
 e7:Int
 de:Int
 deriving DecidableEq
def br.e(x:br):List D:=[I x.cap,.J 5 (x.queue.map aD.e),I x.eH,I x.back,I x.e7,I x.de]
def br.sz(x:br):Nat:=x.queue.length
structure br.wf (x:br):Prop where
 NZ:aK .i64 x.cap
 aqY:(x.queue.length:Int)<=9223372036854775807/\∀y∈x.queue,y.wf
 axn:aK .i64 x.eH
 axi:aK .i64 x.back
 ayM:aK .i64 x.e7
 N':aK .i64 x.de
structure b5 where
 nodes:List Node
 az:Int
 cap:Int
 deriving DecidableEq
def b5.e(x:b5):List D:=[.J 4 (x.nodes.map Node.e),I x.az,I x.cap]
def b5.sz(x:b5):Nat:=fr Node.sz x.nodes
structure b5.wf (x:b5):Prop where
 ayB:(x.nodes.length:Int)<=9223372036854775807/\∀y∈x.nodes,y.wf
 VU:aK .i64 x.az
 NZ:aK .i64 x.cap
structure aR where
 queue:List aD
 ck:List aD
 cb:List aD
 cells:List Cell
 bJ:List Int
 bV:List Bool
 bt:List Bool
 bX:List cz
 deriving DecidableEq
def aR.e(x:aR):List D:=[.J 5 (x.queue.map aD.e),.J 5 (x.ck.map aD.e),.J 5 (x.cb.map aD.e),.J 4 (x.cells.map Cell.e),.J 1 (x.bJ.map bb),.J 1 (x.bV.map cp),.J 1 (x.bt.map cp),.J 2 (x.bX.map cz.e)]
def aR.sz(x:aR):Nat:=x.queue.length+x.ck.length+x.cb.length+x.cells.length+x.bJ.length+x.bV.length+x.bt.length+x.bX.length
structure aR.wf (x:aR):Prop where
 aqY:(x.queue.length:Int)<=9223372036854775807/\∀y∈x.queue,y.wf
 ayN:(x.ck.length:Int)<=9223372036854775807/\∀y∈x.ck,y.wf
 ayv:(x.cb.length:Int)<=9223372036854775807/\∀y∈x.cb,y.wf
 axm:(x.cells.length:Int)<=9223372036854775807/\∀y∈x.cells,y.wf
 ayP:(x.bJ.length:Int)<=9223372036854775807/\∀y∈x.bJ,aK .i64 y
 axj:(x.bV.length:Int)<=9223372036854775807
 axl:(x.bt.length:Int)<=9223372036854775807
 axq:(x.bX.length:Int)<=9223372036854775807/\∀y∈x.bX,y.wf
structure bi where
 aA:b5
 az:List aR
 bU:List br
 tokens:List bW
 news:List bR
 deriving DecidableEq
def bi.e(x:bi):List D:=[.J 4 (x.aA.nodes.map Node.e),I x.aA.az,I x.aA.cap,.J 8 (x.az.map aR.e),.J 6 (x.bU.map br.e),.J 5 (x.tokens.map bW.e),.J 3 (x.news.map bR.e)]
def bi.sz(x:bi):Nat:=x.aA.sz+fr aR.sz x.az+fr br.sz x.bU+x.tokens.length+x.news.length
structure bi.wf (x:bi):Prop where
 X5:x.aA.wf
 VU:(x.az.length:Int)<=9223372036854775807/\∀y∈x.az,y.wf
 Z5:(x.bU.length:Int)<=9223372036854775807/\∀y∈x.bU,y.wf
 ayR:(x.tokens.length:Int)<=9223372036854775807/\∀y∈x.tokens,y.wf
 Tg:(x.news.length:Int)<=9223372036854775807/\∀y∈x.news,y.wf
theorem AY{α:Type}{sz:α->Nat}{xs:List α}{m:Nat}(h:fr sz xs<=m):xs.length<=m:=by unfold fr at h;omega
theorem vJ{α:Type}{sz:α->Nat}{xs:List α}{m:Nat}(h:fr sz xs<=m){a:α}(aj:a∈xs):sz a<=m:=by
 have:=DB (sz:=sz) aj;unfold fr at h;omega
