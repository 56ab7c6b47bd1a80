import Derived.Test.YtdchjefneblpgaaGreatB0
set_option linter.unusedVariables false
set_option linter.unusedSimpArgs false
namespace Go.Proofs.YtdchjefneblpgaaGreat
open Go.Sx Go.RowKit
structure gC where
 a8:Int
 dg:Int
 deriving DecidableEq
def gC.e(x:gC):List D:=[I x.a8,I x.dg]
structure gC.wf (x:gC):Prop where
 Jb:aL .i64 x.a8
 aD8:aL .i64 x.dg
structure Count where
 bi:gC
 n:Int
 deriving DecidableEq
def Count.e(x:Count):List D:=[I x.bi.a8,I x.bi.dg,I x.n]
structure Count.wf (x:Count):Prop where
 aBp:x.bi.wf
 aDN:aL .i64 x.n
structure az where
 op:Int
 bi:gC
 key:Int
 val:Int
 deriving DecidableEq
def az.e(x:az):List D:=[I x.op,I x.bi.a8,I x.bi.dg,I x.key,I x.val]
structure az.wf (x:az):Prop where
 aee:aL .i64 x.op
 aBp:x.bi.wf
 ad0:aL .i64 x.key
 aBD:aL .i64 x.val
structure Cell where
 op:Int
 a8:Int
 key:Int
 val:Int
 deriving DecidableEq
def Cell.e(x:Cell):List D:=[I x.op,I x.a8,I x.key,I x.val]
structure Cell.wf (x:Cell):Prop where
 aee:aL .i64 x.op
 Jb:aL .i64 x.a8
 ad0:aL .i64 x.key
 aBD:aL .i64 x.val
structure cx where
 a8:Int
 cf:Bool
 deriving DecidableEq
def cx.e(x:cx):List D:=[I x.a8,B x.cf]
structure cx.wf (x:cx):Prop where
 Jb:aL .i64 x.a8
structure bP where
 going:Bool
 place:Int
 sum:Int
 bL:Bool
 cf:Bool
 deriving DecidableEq
def bP.e(x:bP):List D:=[B x.going,I x.place,I x.sum,B x.bL,B x.cf]
structure bP.wf (x:bP):Prop where
 aDW:aL .i64 x.place
 aD3:aL .i64 x.sum
structure bT where
 dest:Int
 a8:Int
 cf:Bool
 deriving DecidableEq
def bT.e(x:bT):List D:=[I x.dest,I x.a8,B x.cf]
structure bT.wf (x:bT):Prop where
 aCl:aL .i64 x.dest
 Jb:aL .i64 x.a8
structure b' where
 kind:Int
 a:Int
 b:Int
 deriving DecidableEq
def b'.e(x:b'):List D:=[I x.kind,I x.a,I x.b]
structure b'.wf (x:b'):Prop where
 ad1:aL .i64 x.kind
 abr:aL .i64 x.a
 abv:aL .i64 x.b
structure Node where
 kind:Int
 a:Int
 b:Int
 outs:List Int
 deriving DecidableEq
def Node.e(x:Node):List D:=[I x.kind,I x.a,I x.b,.J 1 (x.outs.map bc)]
def fs{α:Type}(sz:α->Nat)(xs:List α):Nat:=xs.length+(xs.map sz).sum
def Node.sz(x:Node):Nat:=x.outs.length
structure Node.wf (x:Node):Prop where
 ad1:aL .i64 x.kind
 abr:aL .i64 x.a
 abv:aL .i64 x.b
 aDU:(x.outs.length:Int)<=9223372036854775807/\∀y∈x.outs,aL .i64 y
structure bm where
 cap:Int
 queue:List az
 eL:Int
 back:Int
 eo:Int
 cW:Int
 deriving DecidableEq
def bm.e(x:bm):List D:=[I x.cap,.J 5 (x.queue.map az.e),I x.eL,I x.back,I x.eo,I x.cW]
def bm.sz(x:bm):Nat:=x.queue.length
structure bm.wf (x:bm):Prop where
 QR:aL .i64 x.cap
 awr:(x.queue.length:Int)<=9223372036854775807/\∀y∈x.queue,y.wf
 aCk:aL .i64 x.eL
 aCf:aL .i64 x.back
 aD0:aL .i64 x.eo
 Q3:aL .i64 x.cW
structure bV where
 nodes:List Node
 ar:Int
 cap:Int
 deriving DecidableEq
def bV.e(x:bV):List D:=[.J 4 (x.nodes.map Node.e),I x.ar,I x.cap]
def bV.sz(x:bV):Nat:=fs Node.sz x.nodes
structure bV.wf (x:bV):Prop where
 aDO:(x.nodes.length:Int)<=9223372036854775807/\∀y∈x.nodes,y.wf
 ZB:aL .i64 x.ar
 QR:aL .i64 x.cap
structure aK where
 queue:List az
 b8:List az
 bR:List az
 cells:List Cell
 bB:List Int
 bL:List Bool
 bj:List Bool
 bZ:List cx
 deriving DecidableEq
def aK.e(x:aK):List D:=[.J 5 (x.queue.map az.e),.J 5 (x.b8.map az.e),.J 5 (x.bR.map az.e),.J 4 (x.cells.map Cell.e),.J 1 (x.bB.map bc),.J 1 (x.bL.map cv),.J 1 (x.bj.map cv),.J 2 (x.bZ.map cx.e)]
def aK.sz(x:aK):Nat:=x.queue.length+x.b8.length+x.bR.length+x.cells.length+x.bB.length+x.bL.length+x.bj.length+x.bZ.length
structure aK.wf (x:aK):Prop where
 awr:(x.queue.length:Int)<=9223372036854775807/\∀y∈x.queue,y.wf
 aD1:(x.b8.length:Int)<=9223372036854775807/\∀y∈x.b8,y.wf
 aDI:(x.bR.length:Int)<=9223372036854775807/\∀y∈x.bR,y.wf
 aCj:(x.cells.length:Int)<=9223372036854775807/\∀y∈x.cells,y.wf
 aD4:(x.bB.length:Int)<=9223372036854775807/\∀y∈x.bB,aL .i64 y
 aCg:(x.bL.length:Int)<=9223372036854775807
 aCi:(x.bj.length:Int)<=9223372036854775807
 aCm:(x.bZ.length:Int)<=9223372036854775807/\∀y∈x.bZ,y.wf
structure aT where
 ay:bV
 ar:List aK
 bJ:List bm
 tokens:List bP
 news:List bT
 deriving DecidableEq
def aT.e(x:aT):List D:=[.J 4 (x.ay.nodes.map Node.e),I x.ay.ar,I x.ay.cap,.J 8 (x.ar.map aK.e),.J 6 (x.bJ.map bm.e),.J 5 (x.tokens.map bP.e),.J 3 (x.news.map bT.e)]
def aT.sz(x:aT):Nat:=x.ay.sz+fs aK.sz x.ar+fs bm.sz x.bJ+x.tokens.length+x.news.length
structure aT.wf (x:aT):Prop where
 abS:x.ay.wf
 ZB:(x.ar.length:Int)<=9223372036854775807/\∀y∈x.ar,y.wf
 ad5:(x.bJ.length:Int)<=9223372036854775807/\∀y∈x.bJ,y.wf
 aD7:(x.tokens.length:Int)<=9223372036854775807/\∀y∈x.tokens,y.wf
 WD:(x.news.length:Int)<=9223372036854775807/\∀y∈x.news,y.wf
theorem Da{α:Type}{sz:α->Nat}{xs:List α}{m:Nat}(h:fs sz xs<=m):xs.length<=m:=by unfold fs at h;omega
theorem xC{α:Type}{sz:α->Nat}{xs:List α}{m:Nat}(h:fs sz xs<=m){a:α}(ai:a∈xs):sz a<=m:=by
 have:=Af (sz:=sz) ai;unfold fs at h;omega
