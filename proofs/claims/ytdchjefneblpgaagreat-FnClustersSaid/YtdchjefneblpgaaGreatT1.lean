import Derived.Test.YtdchjefneblpgaaGreatB0
set_option linter.unusedVariables false
set_option linter.unusedSimpArgs false
namespace Go.Proofs.YtdchjefneblpgaaGreat
open Go.Sx Go.RowKit
structure hG where
 bh:Int
 di:Int
 deriving DecidableEq
def hG.e(x:hG):List D:=[I x.bh,I x.di]
structure hG.wf (x:hG):Prop where
 Hy:aG .i64 x.bh
 az1:aG .i64 x.di
structure Count where
 bq:hG
 n:Int
 deriving DecidableEq
def Count.e(x:Count):List D:=[I x.bq.bh,I x.bq.di,I x.n]
structure Count.wf (x:Count):Prop where
 axU:x.bq.wf
 azF:aG .i64 x.n
structure aB where
 op:Int
 bq:hG
 key:Int
 val:Int
 deriving DecidableEq
def aB.e(x:aB):List D:=[I x.op,I x.bq.bh,I x.bq.di,I x.key,I x.val]
structure aB.wf (x:aB):Prop where
 acI:aG .i64 x.op
 axU:x.bq.wf
 acy:aG .i64 x.key
 ayb:aG .i64 x.val
structure Cell where
 op:Int
 bh:Int
 key:Int
 val:Int
 deriving DecidableEq
def Cell.e(x:Cell):List D:=[I x.op,I x.bh,I x.key,I x.val]
structure Cell.wf (x:Cell):Prop where
 acI:aG .i64 x.op
 Hy:aG .i64 x.bh
 acy:aG .i64 x.key
 ayb:aG .i64 x.val
structure cx where
 bh:Int
 cw:Bool
 deriving DecidableEq
def cx.e(x:cx):List D:=[I x.bh,B x.cw]
structure cx.wf (x:cx):Prop where
 Hy:aG .i64 x.bh
structure bT where
 going:Bool
 place:Int
 sum:Int
 bN:Bool
 cw:Bool
 deriving DecidableEq
def bT.e(x:bT):List D:=[B x.going,I x.place,I x.sum,B x.bN,B x.cw]
structure bT.wf (x:bT):Prop where
 azM:aG .i64 x.place
 azV:aG .i64 x.sum
structure cb where
 dest:Int
 bh:Int
 cw:Bool
 deriving DecidableEq
def cb.e(x:cb):List D:=[I x.dest,I x.bh,B x.cw]
structure cb.wf (x:cb):Prop where
 ayU:aG .i64 x.dest
 Hy:aG .i64 x.bh
structure cP where
 kind:Int
 a:Int
 b:Int
 deriving DecidableEq
def cP.e(x:cP):List D:=[I x.kind,I x.a,I x.b]
structure cP.wf (x:cP):Prop where
 acz:aG .i64 x.kind
 ZO:aG .i64 x.a
 ZT:aG .i64 x.b
structure Node where
 kind:Int
 a:Int
 b:Int
 outs:List Int
 deriving DecidableEq
def Node.e(x:Node):List D:=[I x.kind,I x.a,I x.b,.J 1 (x.outs.map bb)]
def eZ{α:Type}(sz:α->Nat)(xs:List α):Nat:=xs.length+(xs.map sz).sum
def Node.sz(x:Node):Nat:=x.outs.length
structure Node.wf (x:Node):Prop where
 acz:aG .i64 x.kind
 ZO:aG .i64 x.a
 ZT:aG .i64 x.b
 azL:(x.outs.length:Int)<=9223372036854775807/\∀y∈x.outs,aG .i64 y
structure bD where
 cap:Int
 queue:List aB
 eM:Int
 back:Int
 eu:Int
 dv:Int
 deriving DecidableEq
def bD.e(x:bD):List D:=[I x.cap,.J 5 (x.queue.map aB.e),I x.eM,I x.back,I x.eu,I x.dv]
def bD.sz(x:bD):Nat:=x.queue.length
structure bD.wf (x:bD):Prop where
 Ps:aG .i64 x.cap
 asE:(x.queue.length:Int)<=9223372036854775807/\∀y∈x.queue,y.wf
 ayT:aG .i64 x.eM
 ayN:aG .i64 x.back
 azS:aG .i64 x.eu
 PG:aG .i64 x.dv
structure bS where
 nodes:List Node
 ap:Int
 cap:Int
 deriving DecidableEq
def bS.e(x:bS):List D:=[.J 4 (x.nodes.map Node.e),I x.ap,I x.cap]
def bS.sz(x:bS):Nat:=eZ Node.sz x.nodes
structure bS.wf (x:bS):Prop where
 azG:(x.nodes.length:Int)<=9223372036854775807/\∀y∈x.nodes,y.wf
 XZ:aG .i64 x.ap
 Ps:aG .i64 x.cap
structure aQ where
 queue:List aB
 b3:List aB
 bK:List aB
 cells:List Cell
 bG:List Int
 bN:List Bool
 bB:List Bool
 b':List cx
 deriving DecidableEq
def aQ.e(x:aQ):List D:=[.J 5 (x.queue.map aB.e),.J 5 (x.b3.map aB.e),.J 5 (x.bK.map aB.e),.J 4 (x.cells.map Cell.e),.J 1 (x.bG.map bb),.J 1 (x.bN.map cy),.J 1 (x.bB.map cy),.J 2 (x.b'.map cx.e)]
def aQ.sz(x:aQ):Nat:=x.queue.length+x.b3.length+x.bK.length+x.cells.length+x.bG.length+x.bN.length+x.bB.length+x.b'.length
structure aQ.wf (x:aQ):Prop where
 asE:(x.queue.length:Int)<=9223372036854775807/\∀y∈x.queue,y.wf
 azT:(x.b3.length:Int)<=9223372036854775807/\∀y∈x.b3,y.wf
 azz:(x.bK.length:Int)<=9223372036854775807/\∀y∈x.bK,y.wf
 ayS:(x.cells.length:Int)<=9223372036854775807/\∀y∈x.cells,y.wf
 azW:(x.bG.length:Int)<=9223372036854775807/\∀y∈x.bG,aG .i64 y
 ayP:(x.bN.length:Int)<=9223372036854775807
 ayR:(x.bB.length:Int)<=9223372036854775807
 ayV:(x.b'.length:Int)<=9223372036854775807/\∀y∈x.b',y.wf
structure a8 where
 aC:bS
 ap:List aQ
 bR:List bD
 tokens:List bT
 news:List cb
 deriving DecidableEq
def a8.e(x:a8):List D:=[.J 4 (x.aC.nodes.map Node.e),I x.aC.ap,I x.aC.cap,.J 8 (x.ap.map aQ.e),.J 6 (x.bR.map bD.e),.J 5 (x.tokens.map bT.e),.J 3 (x.news.map cb.e)]
def a8.sz(x:a8):Nat:=x.aC.sz+eZ aQ.sz x.ap+eZ bD.sz x.bR+x.tokens.length+x.news.length
structure a8.wf (x:a8):Prop where
 aah:x.aC.wf
 XZ:(x.ap.length:Int)<=9223372036854775807/\∀y∈x.ap,y.wf
 acB:(x.bR.length:Int)<=9223372036854775807/\∀y∈x.bR,y.wf
 az0:(x.tokens.length:Int)<=9223372036854775807/\∀y∈x.tokens,y.wf
 Tt:(x.news.length:Int)<=9223372036854775807/\∀y∈x.news,y.wf
theorem qw{α:Type}{sz:α->Nat}{xs:List α}{m:Nat}(h:eZ sz xs<=m):xs.length<=m:=by unfold eZ at h;omega
theorem kQ{α:Type}{sz:α->Nat}{xs:List α}{m:Nat}(h:eZ sz xs<=m){a:α}(ae:a∈xs):sz a<=m:=by
 have:=ED (sz:=sz) ae;unfold eZ at h;omega
