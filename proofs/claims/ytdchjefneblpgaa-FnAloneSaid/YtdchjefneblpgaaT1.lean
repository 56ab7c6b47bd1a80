import Derived.Test.YtdchjefneblpgaaB0
set_option linter.unusedVariables false
set_option linter.unusedSimpArgs false
namespace Go.Proofs.Ytdchjefneblpgaa
open Go.Sx Go.RowKit
structure fl where
 aV:Int
 dE:Int
 deriving DecidableEq
def fl.e(x:fl):List D:=[I x.aV,I x.dE]
structure fl.wf (x:fl):Prop where
 A1:ap .i64 x.aV
 af8:ap .i64 x.dE
structure Count where
 bl:fl
 n:Int
 deriving DecidableEq
def Count.e(x:Count):List D:=[I x.bl.aV,I x.bl.dE,I x.n]
structure Count.wf (x:Count):Prop where
 adS:x.bl.wf
 afO:ap .i64 x.n
structure aQ where
 op:Int
 bl:fl
 key:Int
 val:Int
 deriving DecidableEq
def aQ.e(x:aQ):List D:=[I x.op,I x.bl.aV,I x.bl.dE,I x.key,I x.val]
structure aQ.wf (x:aQ):Prop where
 Rn:ap .i64 x.op
 adS:x.bl.wf
 Rb:ap .i64 x.key
 ad7:ap .i64 x.val
structure Cell where
 op:Int
 aV:Int
 key:Int
 val:Int
 deriving DecidableEq
def Cell.e(x:Cell):List D:=[I x.op,I x.aV,I x.key,I x.val]
structure Cell.wf (x:Cell):Prop where
 Rn:ap .i64 x.op
 A1:ap .i64 x.aV
 Rb:ap .i64 x.key
 ad7:ap .i64 x.val
structure mH where
 aV:Int
 dn:Bool
 deriving DecidableEq
def mH.e(x:mH):List D:=[I x.aV,B x.dn]
structure mH.wf (x:mH):Prop where
 A1:ap .i64 x.aV
structure hc where
 going:Bool
 place:Int
 sum:Int
 ey:Bool
 dn:Bool
 deriving DecidableEq
def hc.e(x:hc):List D:=[B x.going,I x.place,I x.sum,B x.ey,B x.dn]
structure hc.wf (x:hc):Prop where
 afX:ap .i64 x.place
 af3:ap .i64 x.sum
structure jd where
 dest:Int
 aV:Int
 dn:Bool
 deriving DecidableEq
def jd.e(x:jd):List D:=[I x.dest,I x.aV,B x.dn]
structure jd.wf (x:jd):Prop where
 aeQ:ap .i64 x.dest
 A1:ap .i64 x.aV
structure n2 where
 kind:Int
 a:Int
 b:Int
 deriving DecidableEq
def n2.e(x:n2):List D:=[I x.kind,I x.a,I x.b]
structure n2.wf (x:n2):Prop where
 Rc:ap .i64 x.kind
 OG:ap .i64 x.a
 OL:ap .i64 x.b
structure Node where
 kind:Int
 a:Int
 b:Int
 outs:List Int
 deriving DecidableEq
def Node.e(x:Node):List D:=[I x.kind,I x.a,I x.b,.aa 1 (x.outs.map aY)]
def hx{α:Type}(sz:α->Nat)(xs:List α):Nat:=xs.length+(xs.map sz).sum
def Node.sz(x:Node):Nat:=x.outs.length
structure Node.wf (x:Node):Prop where
 Rc:ap .i64 x.kind
 OG:ap .i64 x.a
 OL:ap .i64 x.b
 afV:(x.outs.length:Int)<=9223372036854775807/\∀y∈x.outs,ap .i64 y
structure eK where
 cap:Int
 queue:List aQ
 jY:Int
 back:Int
 kd:Int
 hW:Int
 deriving DecidableEq
def eK.e(x:eK):List D:=[I x.cap,.aa 5 (x.queue.map aQ.e),I x.jY,I x.back,I x.kd,I x.hW]
def eK.sz(x:eK):Nat:=x.queue.length
structure eK.wf (x:eK):Prop where
 G7:ap .i64 x.cap
 YL:(x.queue.length:Int)<=9223372036854775807/\∀y∈x.queue,y.wf
 aeP:ap .i64 x.jY
 aeK:ap .i64 x.back
 af1:ap .i64 x.kd
 Hi:ap .i64 x.hW
structure bz where
 nodes:List Node
 bg:Int
 cap:Int
 deriving DecidableEq
def bz.e(x:bz):List D:=[.aa 4 (x.nodes.map Node.e),I x.bg,I x.cap]
def bz.sz(x:bz):Nat:=hx Node.sz x.nodes
structure bz.wf (x:bz):Prop where
 afP:(x.nodes.length:Int)<=9223372036854775807/\∀y∈x.nodes,y.wf
 Nt:ap .i64 x.bg
 G7:ap .i64 x.cap
structure c' where
 queue:List aQ
 iq:List aQ
 hI:List aQ
 cells:List Cell
 gi:List Int
 ey:List Bool
 cD:List Bool
 iz:List mH
 deriving DecidableEq
def c'.e(x:c'):List D:=[.aa 5 (x.queue.map aQ.e),.aa 5 (x.iq.map aQ.e),.aa 5 (x.hI.map aQ.e),.aa 4 (x.cells.map Cell.e),.aa 1 (x.gi.map aY),.aa 1 (x.ey.map G'),.aa 1 (x.cD.map G'),.aa 2 (x.iz.map mH.e)]
def c'.sz(x:c'):Nat:=x.queue.length+x.iq.length+x.hI.length+x.cells.length+x.gi.length+x.ey.length+x.cD.length+x.iz.length
structure c'.wf (x:c'):Prop where
 YL:(x.queue.length:Int)<=9223372036854775807/\∀y∈x.queue,y.wf
 af2:(x.iq.length:Int)<=9223372036854775807/\∀y∈x.iq,y.wf
 afJ:(x.hI.length:Int)<=9223372036854775807/\∀y∈x.hI,y.wf
 aeO:(x.cells.length:Int)<=9223372036854775807/\∀y∈x.cells,y.wf
 af4:(x.gi.length:Int)<=9223372036854775807/\∀y∈x.gi,ap .i64 y
 aeL:(x.ey.length:Int)<=9223372036854775807
 aeN:(x.cD.length:Int)<=9223372036854775807
 aeR:(x.iz.length:Int)<=9223372036854775807/\∀y∈x.iz,y.wf
structure cQ where
 cY:bz
 bg:List c'
 hl:List eK
 tokens:List hc
 news:List jd
 deriving DecidableEq
def cQ.e(x:cQ):List D:=[.aa 4 (x.cY.nodes.map Node.e),I x.cY.bg,I x.cY.cap,.aa 8 (x.bg.map c'.e),.aa 6 (x.hl.map eK.e),.aa 5 (x.tokens.map hc.e),.aa 3 (x.news.map jd.e)]
def cQ.sz(x:cQ):Nat:=x.cY.sz+hx c'.sz x.bg+hx eK.sz x.hl+x.tokens.length+x.news.length
structure cQ.wf (x:cQ):Prop where
 O':x.cY.wf
 Nt:(x.bg.length:Int)<=9223372036854775807/\∀y∈x.bg,y.wf
 Rf:(x.hl.length:Int)<=9223372036854775807/\∀y∈x.hl,y.wf
 af7:(x.tokens.length:Int)<=9223372036854775807/\∀y∈x.tokens,y.wf
 abl:(x.news.length:Int)<=9223372036854775807/\∀y∈x.news,y.wf
