/- Plain lemmas for loops over lists, and how they are read as data. -/
import Derived.Test.YtenekpkjlgddnaaRows
import Derived.Test.YtenekpkjlgddnaaR15
set_option linter.unusedVariables false
set_option linter.unusedSimpArgs false
namespace Go.Proofs.Ytenekpkjlgddnaa
open Go.Sx Go.RowKit
theorem qbw{P:Program}{c:Code}{e:Ex}{stE:St}(he:e.exit'≠.normal):∀(n:Nat) (st:Nat→St),(∀i,i<n→Tr P c (st i) .normal (st (i+1)))→Tr P c (st n) e stE→qam P c (st 0) e stE
 | 0,_,_,hx=>.last he hx
 | n+1,st,hs,hx=>.more (hs 0 (by omega)) (qbw he n (fun i=>st (i+1)) (fun i hi=>hs (i+1) (by omega)) hx)
theorem qaB{α β:Type}{xs:List α}{i:Nat}{a:α}(f:α→β)(h:xs[i]?=some a):(xs.map f)[((i:Nat):Int).toNat]?=some (f a):=by simp[h]
theorem lt1{α β:Type}{xs:List α}{f:α→β}{i:Nat}(h:i<xs.length):decide ((i:Int)<(↑(xs.map f).length:Int))=true:=by simp only[zb,zi];omega
theorem ge1{α β:Type}{xs:List α}{f:α→β}:decide ((↑xs.length:Int)<(↑(xs.map f).length:Int))=false:=by simp
theorem lt0{i:Nat}:0≤(i:Int):=by omega
theorem lt2{α β:Type}{xs:List α}{f:α→β}{i:Nat}(h:i<xs.length):(i:Int)<(↑(xs.map f).length:Int):=by simp only[zb];omega
theorem up1{α:Type}{xs:List α}{i:Nat}(h:i<xs.length)(hl:xs.length≤8388608):inInt IntKind.i64 ((i:Int)+1):=⟨by omega,by omega⟩
theorem qag{α:Type}{xs:List α}{i:Nat}(h:i<xs.length):∃a,xs[i]?=some a:=⟨xs[i],by simp[h]⟩
theorem lt_of{α:Type}{xs:List α}{i:Nat}{a:α}(h:xs[i]?=some a):i<xs.length:=(zk.1 h).1
theorem qbD{α:Type}{xs:List α}{i:Nat}{a:α}(h:xs[i]?=some a):a∈xs:=zw h
theorem qhH{α:Type}{sz:α→Nat}:∀{xs:List α} {a:α},a∈xs→sz a≤(xs.map sz).sum
 | x::xs,a,h=>by
  rcases zL.1 h with rfl | h
  ·simp
  ·have:=qhH (sz:=sz) h
   simp only[zav,zcw]
   omega
def eI(n:Int):List D:=[I n]
def eB(b:Bool):List D:=[B b]
theorem qhI{α:Type}(p:α→Bool):∀(xs:List α),(xs.find? p=none∧∀a∈xs,p a=false)∨∃(i:Nat) (a:α),xs[i]?=some a∧p a=true∧xs.find? p=some a∧∀j b,j<i→xs[j]?=some b→p b=false
 | []=>.inl ⟨rfl,by simp⟩
 | a::xs=>by
  by_cases ha:p a=true
  ·exact .inr ⟨0,a,rfl,ha,by simp[ha],fun j b hj=>by omega⟩
  ·have ha':p a=false:=by simpa using ha
   rcases qhI p xs with⟨h,h2⟩ | ⟨i,x,h1,h2,h4,h3⟩
   ·refine .inl ⟨by simp[ha',h],fun b hb=>?_⟩
    rcases zL.1 hb with rfl | hb
    ·exact ha'
    ·exact h2 b hb
   ·refine .inr ⟨i+1,x,by simpa using h1,h2,by simp[ha',h4],fun j b hj hb=>?_⟩
    cases j with
    | zero=>simp at hb;subst hb;exact ha'
    | succ j=>exact h3 j b (by omega) (by simpa using hb)
def qcp{α β:Type}(f:β→α→β)(b:β)(xs:List α)(i:Nat):β:=(xs.take i).foldl f b
theorem qj2{α β:Type}{f:β→α→β}{b:β}{xs:List α}{i:Nat}{a:α}(h:xs[i]?=some a):qcp f b xs (i+1)=f (qcp f b xs i) a:=by
 simp[qcp,zbe,h,List.foldl_append]
theorem qj3{α β:Type}{f:β→α→β}{b:β}{xs:List α}:qcp f b xs xs.length=xs.foldl f b:=by simp[qcp]
theorem qec{α:Type}(p:α→Bool){xs:List α}{i:Nat}{a:α}(h:xs[i]?=some a):(xs.take (i+1)).filter p=(xs.take i).filter p++(if p a then [a] else []):=by
 simp only[zbe,h,zcp,List.filter_append,List.filter_cons,List.filter_nil]
theorem qaM{α:Type}(f:α→List D)(h:∀a,∀d∈f a,∃x,d=.v x)(xs:List α):Flat (xs.map f):=by
 intro e he d hd
 obtain⟨a,_,rfl⟩:=zbm.1 he
 exact h a d hd
theorem qdn{e:List D}(h:∀d∈e,∃x,d=.v x):Flat [e]:=by
 intro e' he;simp at he;subst he;exact h
theorem qcU{P:Program}{c:Code}{α:Type}(xs:List α)(p:α→Bool)(st:Nat→St){e1 e2:Ex}{X:Nat→α→St}{Y:St}(he1:e1.exit'≠.normal)(he2:e2.exit'≠.normal)
  (hgo:∀i a,xs[i]?=some a→p a=false→Tr P c (st i) .normal (st (i+1))) (hhit:∀i a,xs[i]?=some a→p a=true→Tr P c (st i) e1 (X i a)) (hend:Tr P c (st xs.length) e2 Y):
  (xs.find? p=none∧xs.findIdx? p=none∧xs.any p=false∧qam P c (st 0) e2 Y)∨∃i a,xs[i]?=some a∧p a=true∧xs.find? p=some a∧xs.findIdx? p=some i∧xs.any p=true∧qam P c (st 0) e1 (X i a):=by
 rcases qhI p xs with⟨h1,h2⟩ | ⟨i,a,h1,h2,h3,h4⟩
 ·refine .inl ⟨h1,?_,?_,qbw he2 xs.length st (fun i hi=>?_) hend⟩
  ·rw[zbs];exact h2
  ·rw[zP];exact fun a ha=>by simp[h2 a ha]
  ·obtain⟨a,ha⟩:=qag hi
   exact hgo i a ha (h2 a (qbD ha))
 ·refine .inr ⟨i,a,h1,h2,h3,?_,zcj.2 ⟨a,qbD h1,h2⟩,qbw he1 i st (fun j hj=>?_) (hhit i a h1 h2)⟩
  ·have hi:=lt_of h1
   have ha:xs[i]=a:=by rw[zu hi]at h1;exact zx h1
   rw[zai]
   refine⟨hi,by rw[ha];exact h2,fun j hj=>?_⟩
   have:=h4 j xs[j] hj (by simp)
   simp[this]
  ·obtain⟨b,hb⟩:=qag (xs:=xs) (i:=j) (by have:=lt_of h1;omega)
   exact hgo j b hb (h4 j b hj hb)
def anyI{α:Type}(p:Nat→α→Bool):Nat→List α→Bool
 | _,[]=>false
 | k,a::r=>p k a||anyI p (k+1) r
theorem qfO{α:Type}{p:Nat→α→Bool}:∀{xs:List α} {k:Nat},anyI p k xs=false→∀i a,xs[i]?=some a→p (k+i) a=false
 | [],k,_,i,a,h=>by simp at h
 | x::xs,k,h,i,a,ha=>by
  simp only[anyI,zy]at h
  cases i with
  | zero=>simp at ha;subst ha;exact h.1
  | succ i=>
   have:=qfO h.2 i a (by simpa using ha)
   rwa[show k+1+i=k+(i+1) by omega]at this
theorem qhJ{α:Type}{p:Nat→α→Bool}:∀{xs:List α} {k:Nat},anyI p k xs=true→∃i a,xs[i]?=some a∧p (k+i) a=true∧∀j b,j<i→xs[j]?=some b→p (k+j) b=false
 | [],k,h=>by simp[anyI]at h
 | x::xs,k,h=>by
  by_cases hx:p k x=true
  ·exact⟨0,x,rfl,hx,fun j b hj=>by omega⟩
  ·simp only[anyI,zbi]at h
   obtain⟨i,a,h1,h2,h3⟩:=qhJ (h.resolve_left hx)
   refine⟨i+1,a,by simpa using h1,by rw[show k+(i+1)=k+1+i by omega];exact h2,fun j b hj hb=>?_⟩
   cases j with
   | zero=>simp at hb;subst hb;simpa using hx
   | succ j=>rw[show k+(j+1)=k+1+j by omega];exact h3 j b (by omega) (by simpa using hb)
theorem qj4{P:Program}{c:Code}{α:Type}(xs:List α)(p:Nat→α→Bool)(st:Nat→St){e1 e2:Ex}{X Y:St}(he1:e1.exit'≠.normal)(he2:e2.exit'≠.normal)
  (hgo:∀i a,xs[i]?=some a→p i a=false→Tr P c (st i) .normal (st (i+1))) (hhit:∀i a,xs[i]?=some a→p i a=true→Tr P c (st i) e1 X) (hend:Tr P c (st xs.length) e2 Y):
  (anyI p 0 xs=false∧qam P c (st 0) e2 Y)∨(anyI p 0 xs=true∧qam P c (st 0) e1 X):=by
 cases h:anyI p 0 xs with
 | false=>
  refine .inl ⟨rfl,qbw he2 xs.length st (fun i hi=>?_) hend⟩
  obtain⟨a,ha⟩:=qag hi
  have:=qfO h i a ha
  rw[zv]at this
  exact hgo i a ha this
 | true=>
  obtain⟨i,a,h1,h2,h3⟩:=qhJ h
  rw[zv]at h2
  refine .inr ⟨rfl,qbw he1 i st (fun j hj=>?_) (hhit i a h1 h2)⟩
  obtain⟨b,hb⟩:=qag (xs:=xs) (i:=j) (by have:=lt_of h1;omega)
  have:=h3 j b hj hb
  rw[zv]at this
  exact hgo j b hb this
end Go.Proofs.Ytenekpkjlgddnaa
namespace Go.Proofs.Ytenekpkjlgddnaa
open Go.Sx Go.RowKit
structure Stamp where
 epoch:Int
 turn:Int
 deriving DecidableEq
def Stamp.e(x:Stamp):List D:=[I x.epoch,I x.turn]
structure Stamp.wf (x:Stamp):Prop where
 epoch_ok:inInt .i64 x.epoch
 turn_ok:inInt .i64 x.turn
structure Count where
 stamp:Stamp
 n:Int
 deriving DecidableEq
def Count.e(x:Count):List D:=[I x.stamp.epoch,I x.stamp.turn,I x.n]
structure Count.wf (x:Count):Prop where
 stamp_ok:x.stamp.wf
 n_ok:inInt .i64 x.n
structure Record where
 op:Int
 stamp:Stamp
 key:Int
 val:Int
 deriving DecidableEq
def Record.e(x:Record):List D:=[I x.op,I x.stamp.epoch,I x.stamp.turn,I x.key,I x.val]
structure Record.wf (x:Record):Prop where
 op_ok:inInt .i64 x.op
 stamp_ok:x.stamp.wf
 key_ok:inInt .i64 x.key
 val_ok:inInt .i64 x.val
structure Cell where
 op:Int
 epoch:Int
 key:Int
 val:Int
 deriving DecidableEq
def Cell.e(x:Cell):List D:=[I x.op,I x.epoch,I x.key,I x.val]
structure Cell.wf (x:Cell):Prop where
 op_ok:inInt .i64 x.op
 epoch_ok:inInt .i64 x.epoch
 key_ok:inInt .i64 x.key
 val_ok:inInt .i64 x.val
structure Done where
 epoch:Int
 capped:Bool
 deriving DecidableEq
def Done.e(x:Done):List D:=[I x.epoch,B x.capped]
structure Done.wf (x:Done):Prop where
 epoch_ok:inInt .i64 x.epoch
structure Token where
 going:Bool
 place:Int
 sum:Int
 black:Bool
 capped:Bool
 deriving DecidableEq
def Token.e(x:Token):List D:=[B x.going,I x.place,I x.sum,B x.black,B x.capped]
structure Token.wf (x:Token):Prop where
 place_ok:inInt .i64 x.place
 sum_ok:inInt .i64 x.sum
structure News where
 dest:Int
 epoch:Int
 capped:Bool
 deriving DecidableEq
def News.e(x:News):List D:=[I x.dest,I x.epoch,B x.capped]
structure News.wf (x:News):Prop where
 dest_ok:inInt .i64 x.dest
 epoch_ok:inInt .i64 x.epoch
structure Pick where
 kind:Int
 a:Int
 b:Int
 deriving DecidableEq
def Pick.e(x:Pick):List D:=[I x.kind,I x.a,I x.b]
structure Pick.wf (x:Pick):Prop where
 kind_ok:inInt .i64 x.kind
 a_ok:inInt .i64 x.a
 b_ok:inInt .i64 x.b
structure Node where
 kind:Int
 a:Int
 b:Int
 outs:List Int
 deriving DecidableEq
def Node.e(x:Node):List D:=[I x.kind,I x.a,I x.b,.sl 1 (x.outs.map eI)]
def szS{α:Type}(sz:α→Nat)(xs:List α):Nat:=xs.length+(xs.map sz).sum
def Node.sz(x:Node):Nat:=x.outs.length
structure Node.wf (x:Node):Prop where
 kind_ok:inInt .i64 x.kind
 a_ok:inInt .i64 x.a
 b_ok:inInt .i64 x.b
 outs_ok:(x.outs.length:Int)≤9223372036854775807∧∀y∈x.outs,inInt .i64 y
structure Link where
 cap:Int
 queue:List Record
 credits:Int
 back:Int
 sent:Int
 got:Int
 deriving DecidableEq
def Link.e(x:Link):List D:=[I x.cap,.sl 5 (x.queue.map Record.e),I x.credits,I x.back,I x.sent,I x.got]
def Link.sz(x:Link):Nat:=x.queue.length
structure Link.wf (x:Link):Prop where
 cap_ok:inInt .i64 x.cap
 queue_ok:(x.queue.length:Int)≤9223372036854775807∧∀y∈x.queue,y.wf
 credits_ok:inInt .i64 x.credits
 back_ok:inInt .i64 x.back
 sent_ok:inInt .i64 x.sent
 got_ok:inInt .i64 x.got
structure Graph where
 nodes:List Node
 workers:Int
 cap:Int
 deriving DecidableEq
def Graph.e(x:Graph):List D:=[.sl 4 (x.nodes.map Node.e),I x.workers,I x.cap]
def Graph.sz(x:Graph):Nat:=szS Node.sz x.nodes
structure Graph.wf (x:Graph):Prop where
 nodes_ok:(x.nodes.length:Int)≤9223372036854775807∧∀y∈x.nodes,y.wf
 workers_ok:inInt .i64 x.workers
 cap_ok:inInt .i64 x.cap
structure Worker where
 queue:List Record
 staged:List Record
 inputs:List Record
 cells:List Cell
 sums:List Int
 black:List Bool
 caps:List Bool
 dones:List Done
 deriving DecidableEq
def Worker.e(x:Worker):List D:=[.sl 5 (x.queue.map Record.e),.sl 5 (x.staged.map Record.e),.sl 5 (x.inputs.map Record.e),.sl 4 (x.cells.map Cell.e),.sl 1 (x.sums.map eI),.sl 1 (x.black.map eB),.sl 1 (x.caps.map eB),.sl 2 (x.dones.map Done.e)]
def Worker.sz(x:Worker):Nat:=x.queue.length+x.staged.length+x.inputs.length+x.cells.length+x.sums.length+x.black.length+x.caps.length+x.dones.length
structure Worker.wf (x:Worker):Prop where
 queue_ok:(x.queue.length:Int)≤9223372036854775807∧∀y∈x.queue,y.wf
 staged_ok:(x.staged.length:Int)≤9223372036854775807∧∀y∈x.staged,y.wf
 inputs_ok:(x.inputs.length:Int)≤9223372036854775807∧∀y∈x.inputs,y.wf
 cells_ok:(x.cells.length:Int)≤9223372036854775807∧∀y∈x.cells,y.wf
 sums_ok:(x.sums.length:Int)≤9223372036854775807∧∀y∈x.sums,inInt .i64 y
 black_ok:(x.black.length:Int)≤9223372036854775807
 caps_ok:(x.caps.length:Int)≤9223372036854775807
 dones_ok:(x.dones.length:Int)≤9223372036854775807∧∀y∈x.dones,y.wf
structure Cluster where
 graph:Graph
 workers:List Worker
 links:List Link
 tokens:List Token
 news:List News
 deriving DecidableEq
def Cluster.e(x:Cluster):List D:=[.sl 4 (x.graph.nodes.map Node.e),I x.graph.workers,I x.graph.cap,.sl 8 (x.workers.map Worker.e),.sl 6 (x.links.map Link.e),.sl 5 (x.tokens.map Token.e),.sl 3 (x.news.map News.e)]
def Cluster.sz(x:Cluster):Nat:=x.graph.sz+szS Worker.sz x.workers+szS Link.sz x.links+x.tokens.length+x.news.length
structure Cluster.wf (x:Cluster):Prop where
 graph_ok:x.graph.wf
 workers_ok:(x.workers.length:Int)≤9223372036854775807∧∀y∈x.workers,y.wf
 links_ok:(x.links.length:Int)≤9223372036854775807∧∀y∈x.links,y.wf
 tokens_ok:(x.tokens.length:Int)≤9223372036854775807∧∀y∈x.tokens,y.wf
 news_ok:(x.news.length:Int)≤9223372036854775807∧∀y∈x.news,y.wf
end Go.Proofs.Ytenekpkjlgddnaa
