import Derived.Test.YthfnndblgbjniaaGreatB0
set_option linter.unusedVariables false
set_option linter.unusedSimpArgs false
namespace Go.Proofs.YthfnndblgbjniaaGreat
open Go.Sx Go.RowKit
structure gQ where
 ba:Int
 dc:Int
 deriving DecidableEq
def gQ.e(x:gQ):List D:=[I x.ba,I x.dc]
structure gQ.wf (x:gQ):Prop where
 JK:aL .i64 x.ba
 aGI:aL .i64 x.dc
structure Count where
 bl:gQ
 n:Int
 deriving DecidableEq
def Count.e(x:Count):List D:=[I x.bl.ba,I x.bl.dc,I x.n]
structure Count.wf (x:Count):Prop where
 aDU:x.bl.wf
 aGk:aL .i64 x.n
structure az where
 op:Int
 bl:gQ
 key:Int
 val:Int
 deriving DecidableEq
def az.e(x:az):List D:=[I x.op,I x.bl.ba,I x.bl.dc,I x.key,I x.val]
structure az.wf (x:az):Prop where
 afE:aL .i64 x.op
 aDU:x.bl.wf
 afq:aL .i64 x.key
 aD8:aL .i64 x.val
structure Cell where
 op:Int
 ba:Int
 key:Int
 val:Int
 deriving DecidableEq
def Cell.e(x:Cell):List D:=[I x.op,I x.ba,I x.key,I x.val]
structure Cell.wf (x:Cell):Prop where
 afE:aL .i64 x.op
 JK:aL .i64 x.ba
 afq:aL .i64 x.key
 aD8:aL .i64 x.val
structure cS where
 ba:Int
 cr:Bool
 deriving DecidableEq
def cS.e(x:cS):List D:=[I x.ba,B x.cr]
structure cS.wf (x:cS):Prop where
 JK:aL .i64 x.ba
structure bQ where
 going:Bool
 place:Int
 sum:Int
 bN:Bool
 cr:Bool
 deriving DecidableEq
def bQ.e(x:bQ):List D:=[B x.going,I x.place,I x.sum,B x.bN,B x.cr]
structure bQ.wf (x:bQ):Prop where
 aGv:aL .i64 x.place
 aGC:aL .i64 x.sum
structure bT where
 dest:Int
 ba:Int
 cr:Bool
 deriving DecidableEq
def bT.e(x:bT):List D:=[I x.dest,I x.ba,B x.cr]
structure bT.wf (x:bT):Prop where
 aEQ:aL .i64 x.dest
 JK:aL .i64 x.ba
structure b7 where
 kind:Int
 a:Int
 b:Int
 deriving DecidableEq
def b7.e(x:b7):List D:=[I x.kind,I x.a,I x.b]
structure b7.wf (x:b7):Prop where
 afr:aL .i64 x.kind
 acL:aL .i64 x.a
 acP:aL .i64 x.b
structure Node where
 kind:Int
 a:Int
 b:Int
 outs:List Int
 deriving DecidableEq
def Node.e(x:Node):List D:=[I x.kind,I x.a,I x.b,.J 1 (x.outs.map bd)]
def fw{α:Type}(sz:α->Nat)(xs:List α):Nat:=xs.length+(xs.map sz).sum
def Node.sz(x:Node):Nat:=x.outs.length
structure Node.wf (x:Node):Prop where
 afr:aL .i64 x.kind
 acL:aL .i64 x.a
 acP:aL .i64 x.b
 aGt:(x.outs.length:Int)<=9223372036854775807/\∀y∈x.outs,aL .i64 y
structure bj where
 cap:Int
 queue:List az
 eb:Int
 back:Int
 ek:Int
 db:Int
 deriving DecidableEq
def bj.e(x:bj):List D:=[I x.cap,.J 5 (x.queue.map az.e),I x.eb,I x.back,I x.ek,I x.db]
def bj.sz(x:bj):Nat:=x.queue.length
structure bj.wf (x:bj):Prop where
 RO:aL .i64 x.cap
 azw:(x.queue.length:Int)<=9223372036854775807/\∀y∈x.queue,y.wf
 aEP:aL .i64 x.eb
 aEK:aL .i64 x.back
 aGz:aL .i64 x.ek
 R4:aL .i64 x.db
structure bX where
 nodes:List Node
 aq:Int
 cap:Int
 deriving DecidableEq
def bX.e(x:bX):List D:=[.J 4 (x.nodes.map Node.e),I x.aq,I x.cap]
def bX.sz(x:bX):Nat:=fw Node.sz x.nodes
structure bX.wf (x:bX):Prop where
 aGl:(x.nodes.length:Int)<=9223372036854775807/\∀y∈x.nodes,y.wf
 aaO:aL .i64 x.aq
 RO:aL .i64 x.cap
structure aK where
 queue:List az
 b9:List az
 bM:List az
 cells:List Cell
 bB:List Int
 bN:List Bool
 bk:List Bool
 b0:List cS
 deriving DecidableEq
def aK.e(x:aK):List D:=[.J 5 (x.queue.map az.e),.J 5 (x.b9.map az.e),.J 5 (x.bM.map az.e),.J 4 (x.cells.map Cell.e),.J 1 (x.bB.map bd),.J 1 (x.bN.map cG),.J 1 (x.bk.map cG),.J 2 (x.b0.map cS.e)]
def aK.sz(x:aK):Nat:=x.queue.length+x.b9.length+x.bM.length+x.cells.length+x.bB.length+x.bN.length+x.bk.length+x.b0.length
structure aK.wf (x:aK):Prop where
 azw:(x.queue.length:Int)<=9223372036854775807/\∀y∈x.queue,y.wf
 aGA:(x.b9.length:Int)<=9223372036854775807/\∀y∈x.b9,y.wf
 aGf:(x.bM.length:Int)<=9223372036854775807/\∀y∈x.bM,y.wf
 aEO:(x.cells.length:Int)<=9223372036854775807/\∀y∈x.cells,y.wf
 aGD:(x.bB.length:Int)<=9223372036854775807/\∀y∈x.bB,aL .i64 y
 aEL:(x.bN.length:Int)<=9223372036854775807
 aEN:(x.bk.length:Int)<=9223372036854775807
 aER:(x.b0.length:Int)<=9223372036854775807/\∀y∈x.b0,y.wf
structure aO where
 au:bX
 aq:List aK
 bn:List bj
 tokens:List bQ
 news:List bT
 deriving DecidableEq
def aO.e(x:aO):List D:=[.J 4 (x.au.nodes.map Node.e),I x.au.aq,I x.au.cap,.J 8 (x.aq.map aK.e),.J 6 (x.bn.map bj.e),.J 5 (x.tokens.map bQ.e),.J 3 (x.news.map bT.e)]
def aO.sz(x:aO):Nat:=x.au.sz+fw aK.sz x.aq+fw bj.sz x.bn+x.tokens.length+x.news.length
structure aO.wf (x:aO):Prop where
 adf:x.au.wf
 aaO:(x.aq.length:Int)<=9223372036854775807/\∀y∈x.aq,y.wf
 afv:(x.bn.length:Int)<=9223372036854775807/\∀y∈x.bn,y.wf
 aGH:(x.tokens.length:Int)<=9223372036854775807/\∀y∈x.tokens,y.wf
 YD:(x.news.length:Int)<=9223372036854775807/\∀y∈x.news,y.wf
theorem N3{α:Type}{sz:α->Nat}{xs:List α}{m:Nat}(h:fw sz xs<=m):xs.length<=m:=by unfold fw at h;omega
theorem Du{α:Type}{sz:α->Nat}{xs:List α}{m:Nat}(h:fw sz xs<=m){a:α}(ah:a∈xs):sz a<=m:=by
 have:=Hv (sz:=sz) ah;unfold fw at h;omega
