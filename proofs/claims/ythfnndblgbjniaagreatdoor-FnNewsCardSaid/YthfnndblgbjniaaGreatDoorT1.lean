import Derived.Test.YthfnndblgbjniaaGreatDoorB0
set_option linter.unusedVariables false
set_option linter.unusedSimpArgs false
namespace Go.Proofs.YthfnndblgbjniaaGreatDoor
open Go.Sx Go.RowKit
structure hd where
 bh:Int
 eo:Int
 deriving DecidableEq
def hd.e(x:hd):List D:=[I x.bh,I x.eo]
structure hd.wf (x:hd):Prop where
 EF:aK .i64 x.bh
 atQ:aK .i64 x.eo
structure Count where
 bJ:hd
 n:Int
 deriving DecidableEq
def Count.e(x:Count):List D:=[I x.bJ.bh,I x.bJ.eo,I x.n]
structure Count.wf (x:Count):Prop where
 arq:x.bJ.wf
 atx:aK .i64 x.n
structure aH where
 op:Int
 bJ:hd
 key:Int
 val:Int
 deriving DecidableEq
def aH.e(x:aH):List D:=[I x.op,I x.bJ.bh,I x.bJ.eo,I x.key,I x.val]
structure aH.wf (x:aH):Prop where
 Xn:aK .i64 x.op
 arq:x.bJ.wf
 Xb:aK .i64 x.key
 arF:aK .i64 x.val
structure Cell where
 op:Int
 bh:Int
 key:Int
 val:Int
 deriving DecidableEq
def Cell.e(x:Cell):List D:=[I x.op,I x.bh,I x.key,I x.val]
structure Cell.wf (x:Cell):Prop where
 Xn:aK .i64 x.op
 EF:aK .i64 x.bh
 Xb:aK .i64 x.key
 arF:aK .i64 x.val
structure ca where
 bh:Int
 dq:Bool
 deriving DecidableEq
def ca.e(x:ca):List D:=[I x.bh,B x.dq]
structure ca.wf (x:ca):Prop where
 EF:aK .i64 x.bh
structure b4 where
 going:Bool
 place:Int
 sum:Int
 bW:Bool
 dq:Bool
 deriving DecidableEq
def b4.e(x:b4):List D:=[B x.going,I x.place,I x.sum,B x.bW,B x.dq]
structure b4.wf (x:b4):Prop where
 atF:aK .i64 x.place
 atL:aK .i64 x.sum
structure bR where
 dest:Int
 bh:Int
 dq:Bool
 deriving DecidableEq
def bR.e(x:bR):List D:=[I x.dest,I x.bh,B x.dq]
structure bR.wf (x:bR):Prop where
 asp:aK .i64 x.dest
 EF:aK .i64 x.bh
structure c' where
 kind:Int
 a:Int
 b:Int
 deriving DecidableEq
def c'.e(x:c'):List D:=[I x.kind,I x.a,I x.b]
structure c'.wf (x:c'):Prop where
 Xc:aK .i64 x.kind
 UZ:aK .i64 x.a
 U4:aK .i64 x.b
structure Node where
 kind:Int
 a:Int
 b:Int
 outs:List Int
 deriving DecidableEq
def Node.e(x:Node):List D:=[I x.kind,I x.a,I x.b,.J 1 (x.outs.map ba)]
def eO{α:Type}(sz:α->Nat)(xs:List α):Nat:=xs.length+(xs.map sz).sum
def Node.sz(x:Node):Nat:=x.outs.length
structure Node.wf (x:Node):Prop where
 Xc:aK .i64 x.kind
 UZ:aK .i64 x.a
 U4:aK .i64 x.b
 atD:(x.outs.length:Int)<=9223372036854775807/\∀y∈x.outs,aK .i64 y
structure bA where
 cap:Int
 queue:List aH
 eK:Int
 back:Int
 fb:Int
 dd:Int
 deriving DecidableEq
def bA.e(x:bA):List D:=[I x.cap,.J 5 (x.queue.map aH.e),I x.eK,I x.back,I x.fb,I x.dd]
def bA.sz(x:bA):Nat:=x.queue.length
structure bA.wf (x:bA):Prop where
 LY:aK .i64 x.cap
 alT:(x.queue.length:Int)<=9223372036854775807/\∀y∈x.queue,y.wf
 asn:aK .i64 x.eK
 ash:aK .i64 x.back
 atJ:aK .i64 x.fb
 L8:aK .i64 x.dd
structure b1 where
 nodes:List Node
 aB:Int
 cap:Int
 deriving DecidableEq
def b1.e(x:b1):List D:=[.J 4 (x.nodes.map Node.e),I x.aB,I x.cap]
def b1.sz(x:b1):Nat:=eO Node.sz x.nodes
structure b1.wf (x:b1):Prop where
 aty:(x.nodes.length:Int)<=9223372036854775807/\∀y∈x.nodes,y.wf
 Tj:aK .i64 x.aB
 LY:aK .i64 x.cap
structure aR where
 queue:List aH
 cn:List aH
 cb:List aH
 cells:List Cell
 bN:List Int
 bW:List Bool
 bB:List Bool
 bx:List ca
 deriving DecidableEq
def aR.e(x:aR):List D:=[.J 5 (x.queue.map aH.e),.J 5 (x.cn.map aH.e),.J 5 (x.cb.map aH.e),.J 4 (x.cells.map Cell.e),.J 1 (x.bN.map ba),.J 1 (x.bW.map cu),.J 1 (x.bB.map cu),.J 2 (x.bx.map ca.e)]
def aR.sz(x:aR):Nat:=x.queue.length+x.cn.length+x.cb.length+x.cells.length+x.bN.length+x.bW.length+x.bB.length+x.bx.length
structure aR.wf (x:aR):Prop where
 alT:(x.queue.length:Int)<=9223372036854775807/\∀y∈x.queue,y.wf
 atK:(x.cn.length:Int)<=9223372036854775807/\∀y∈x.cn,y.wf
 atq:(x.cb.length:Int)<=9223372036854775807/\∀y∈x.cb,y.wf
 asm:(x.cells.length:Int)<=9223372036854775807/\∀y∈x.cells,y.wf
 atM:(x.bN.length:Int)<=9223372036854775807/\∀y∈x.bN,aK .i64 y
 asi:(x.bW.length:Int)<=9223372036854775807
 asl:(x.bB.length:Int)<=9223372036854775807
 asq:(x.bx.length:Int)<=9223372036854775807/\∀y∈x.bx,y.wf
structure bb where
 aG:b1
 aB:List aR
 b2:List bA
 tokens:List b4
 news:List bR
 deriving DecidableEq
def bb.e(x:bb):List D:=[.J 4 (x.aG.nodes.map Node.e),I x.aG.aB,I x.aG.cap,.J 8 (x.aB.map aR.e),.J 6 (x.b2.map bA.e),.J 5 (x.tokens.map b4.e),.J 3 (x.news.map bR.e)]
def bb.sz(x:bb):Nat:=x.aG.sz+eO aR.sz x.aB+eO bA.sz x.b2+x.tokens.length+x.news.length
structure bb.wf (x:bb):Prop where
 Vn:x.aG.wf
 Tj:(x.aB.length:Int)<=9223372036854775807/\∀y∈x.aB,y.wf
 Xe:(x.b2.length:Int)<=9223372036854775807/\∀y∈x.b2,y.wf
 atP:(x.tokens.length:Int)<=9223372036854775807/\∀y∈x.tokens,y.wf
 Ru:(x.news.length:Int)<=9223372036854775807/\∀y∈x.news,y.wf
theorem wA{α:Type}{sz:α->Nat}{xs:List α}{m:Nat}(h:eO sz xs<=m):xs.length<=m:=by unfold eO at h;omega
theorem uU{α:Type}{sz:α->Nat}{xs:List α}{m:Nat}(h:eO sz xs<=m){a:α}(ai:a∈xs):sz a<=m:=by
 have:=CS (sz:=sz) ai;unfold eO at h;omega
