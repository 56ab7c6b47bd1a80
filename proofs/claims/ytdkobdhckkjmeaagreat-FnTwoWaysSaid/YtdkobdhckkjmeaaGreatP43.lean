/- The copies of nodes, graphs, links, workers and clusters: what program and reference hand back is what came in. -/
import Derived.Test.YtdkobdhckkjmeaaGreatP18
import Derived.Test.YtdkobdhckkjmeaaGreatP9
import Derived.Test.YtdkobdhckkjmeaaGreatGV
import Derived.Test.YtdkobdhckkjmeaaGreatR22
import Derived.Test.YtdkobdhckkjmeaaGreatT1
import Derived.Test.YtdkobdhckkjmeaaGreatRows
import Derived.WalkKit
import Derived.Deep.RegionLaw
import Derived.Shelf.RegionOpenPlain
import Derived.Lib.SliceRun
import Derived.Deep.LoopGhost
import Derived.Lib.Walk
set_option linter.unusedVariables false
set_option linter.unusedSimpArgs false
namespace Go.Proofs.YtdkobdhckkjmeaaGreat
open Go.Sx Go.RowKit Go.Proofs.Tryz
theorem flatI(xs:List Int):Flat (xs.map eI):=qae eI (fun _ _ hd=>⟨_,List.mem_singleton.1 hd⟩) xs
theorem flatB(xs:List Bool):Flat (xs.map eB):=qae eB (fun _ _ hd=>⟨_,List.mem_singleton.1 hd⟩) xs
theorem Done.flat(r:Done):∀d∈r.e,∃x,d=.v x:=by
 intro d hd;simp only[Done.e,zL,zbu,or_false]at hd;rcases hd with rfl | rfl<;>exact⟨_,rfl⟩
theorem News.flat(r:News):∀d∈r.e,∃x,d=.v x:=by
 intro d hd;simp only[News.e,zL,zbu,or_false]at hd;rcases hd with rfl | rfl | rfl<;>exact⟨_,rfl⟩
theorem Token.flat(r:Token):∀d∈r.e,∃x,d=.v x:=by
 intro d hd;simp only[Token.e,zL,zbu,or_false]at hd;rcases hd with rfl | rfl | rfl | rfl | rfl<;>exact⟨_,rfl⟩
theorem qgM{α:Type}{f:α→List D}{xs:List α}{i:Nat}{a:α}(h:xs[i]?=some a):(xs.take (i+1)).map f=(xs.take i).map f++[f a]:=by simp[zbe,h]
theorem nl(l:List (List D)){k m:Nat}(h:l.length*k≤m):(([]:List (List D)).length+l.length)*k≤m:=by simpa using h
theorem nl1(l:List (List D)){m:Nat}(h:l.length≤m):([]:List (List D)).length+l.length≤m:=by simpa using h
theorem Graph.node_sz1{g:Graph}(h:g.sz≤8388608){x:Node}(hx:x∈g.nodes):x.sz≤8388608:=qe2 (sz:=Node.sz) (xs:=g.nodes) (m:=8388608) (by simp only[Graph.sz]at h;omega) hx
theorem Graph.nodes_le1{g:Graph}(h:g.sz≤8388608):g.nodes.length≤8388608:=by simp only[Graph.sz,szS]at h;omega
theorem Cluster.worker_sz1{c:Cluster}(h:c.sz≤8388608){w:Worker}(hw:w∈c.workers):w.sz≤8388608:=qe2 (sz:=Worker.sz) (xs:=c.workers) (m:=8388608) (by simp only[Cluster.sz]at h;omega) hw
theorem Cluster.link_sz1{c:Cluster}(h:c.sz≤8388608){w:Link}(hw:w∈c.links):w.sz≤8388608:=qe2 (sz:=Link.sz) (xs:=c.links) (m:=8388608) (by simp only[Cluster.sz]at h;omega) hw
theorem Cluster.graph_sz1{c:Cluster}(h:c.sz≤8388608):c.graph.sz≤8388608:=by simp only[Cluster.sz]at h;omega
theorem qK6(x:Node)(h:x.sz≤8388608):Rt 258 [.agg x.e] [.agg x.e]:=by
 simp only[Node.sz]at h;exact qJL ⟨nl _ (by simp;omega),nl1 _ (by simp;omega),flatI _,trivial⟩
theorem qki(x:Link)(h:x.sz≤8388608):Rt 263 [.agg x.e] [.agg x.e]:=
 qJP ⟨qgs x.queue h,trivial⟩
theorem qgN(x:Worker)(h:x.sz≤8388608):Rt 262 [.agg x.e] [.agg x.e]:=by
 simp only[Worker.sz]at h;exact qJQ ⟨qgs x.queue (by omega),qgs x.staged (by omega),qgs x.inputs (by omega),qej x.cells (by omega),nl _ (by simp;omega),nl1 _ (by simp;omega),flatI _,nl _ (by simp;omega),nl1 _ (by simp;omega),flatB _,nl _ (by simp;omega),nl1 _ (by simp;omega),flatB _,nl _ (by simp;omega),nl1 _ (by simp;omega),qae _ Done.flat _,trivial⟩
theorem qsL(g:Graph)(hg:g.sz≤8388608):Rt 146 [.agg g.e] [.agg g.e]:=by
 have hn:=Graph.nodes_le1 hg;have l:=qao (P:=prog) (c:=(qaa f146 0)) (qaf 0) g.nodes.length (fun i:Nat=>qh6 (g.nodes.map Node.e) i ((g.nodes.take i).map Node.e) g.workers g.cap 0 0) (fun i hi=>by
  obtain⟨a,ha⟩:=qal hi;rw[qgM ha];exact qJM ⟨lt1 hi,lt0,lt2 hi,qac Node.e ha,qK6 a (Graph.node_sz1 hg (qag ha)),by simp;omega,by simp;omega,up1 hi hn,trivial⟩) (qJN ⟨ge1,trivial⟩)
 rw[zC]at l;exact qJO ⟨l,trivial⟩
theorem qsM(g:Graph)(hg:g.sz≤8388608):Rt 123 [.agg g.e] [.agg g.e]:=by
 have hn:=Graph.nodes_le1 hg;have l:=qao (P:=prog) (c:=(qaa f123 0)) (qaf 0) g.nodes.length (fun i:Nat=>qh9 i ((g.nodes.take i).map Node.e) g.workers g.cap 0 0 (g.nodes.map Node.e) g.workers g.cap) (fun i hi=>by
  obtain⟨a,ha⟩:=qal hi;have hs:=Graph.node_sz1 hg (qag ha);simp only[Node.sz]at hs;rw[qgM ha];exact qJX ⟨lt1 hi,lt0,lt2 hi,qac Node.e ha,nl _ (by simp;omega),nl1 _ (by simp;omega),flatI _,by simp;omega,by simp;omega,up1 hi hn,trivial⟩) (qJY ⟨ge1,trivial⟩)
 rw[zC]at l;exact qJZ ⟨l,trivial⟩
theorem qdf(c:Cluster)(hc:c.sz≤8388608):Rt 152 [.agg c.e] [.agg c.e]:=by
 have hw:=Cluster.wlen_le hc;have hl:=Cluster.llen_le hc;have ht:c.tokens.length≤8388608:=by simp only[Cluster.sz,szS]at hc;omega
 have hx:c.news.length≤8388608:=by simp only[Cluster.sz,szS]at hc;omega
 have l0:=qao (P:=prog) (c:=(qaa f152 0)) (qaf 0) c.workers.length (fun i:Nat=>qh7 (c.workers.map Worker.e) i (c.graph.nodes.map Node.e) c.graph.workers c.graph.cap ((c.workers.take i).map Worker.e) (c.tokens.map Token.e) (c.news.map News.e) 0 0 (c.graph.nodes.map Node.e) c.graph.workers c.graph.cap (c.workers.map Worker.e) (c.links.map Link.e) (c.tokens.map Token.e) (c.news.map News.e)) (fun i hi=>by
  obtain⟨a,ha⟩:=qal hi;rw[qgM ha];exact qJR ⟨lt1 hi,lt0,lt2 hi,qac Worker.e ha,qgN a (Cluster.worker_sz1 hc (qag ha)),by simp;omega,by simp;omega,up1 hi hw,trivial⟩) (qJS ⟨ge1,trivial⟩)
 have l1:=qao (P:=prog) (c:=(qaa f152 1)) (qaf 2) c.links.length (fun i:Nat=>qh8 (c.links.map Link.e) i (c.graph.nodes.map Node.e) c.graph.workers c.graph.cap (c.workers.map Worker.e) ((c.links.take i).map Link.e) (c.tokens.map Token.e) (c.news.map News.e) 0 0) (fun i hi=>by
  obtain⟨a,ha⟩:=qal hi;rw[qgM ha];exact qJT ⟨lt1 hi,lt0,lt2 hi,qac Link.e ha,qki a (Cluster.link_sz1 hc (qag ha)),by simp;omega,by simp;omega,up1 hi hl,trivial⟩) (qJU ⟨ge1,trivial⟩)
 rw[zC]at l0 l1;exact qJV ⟨qsL c.graph (Cluster.graph_sz1 hc),nl _ (by simp;omega),nl1 _ (by simp;omega),qae _ Token.flat _,nl _ (by simp;omega),nl1 _ (by simp;omega),qae _ News.flat _,l0,l1,trivial⟩
end Go.Proofs.YtdkobdhckkjmeaaGreat
namespace Go.Proofs.YtdkobdhckkjmeaaGreat
open Go.Sx Go.RowKit Go.Shelf Go.Lib Go.Proofs.Tryz
theorem qK9{P:Program}{ops:Array Oper}{o:Oper}{a:Act}{w:World}{K:Act→World→Prop}{Q:Exit→Act→World→Prop}{E:Prop}
  (hg:o.guard=none) (x y:Operand) (tx ty:TypeId) (hop:o.op=Op.call { callee:=Callee.builtin Builtin.append,args:=#[x,y],argTypes:=#[tx,ty] })
  (v u:Value) (hx:a.eval x=v) (hy:a.eval y=u) {v':Value} {w':World} (hr:(Builtin.append_ #[tx,ty] o.type #[v,u]).run P w=.ok v' w') (hK:K (a.put o.dst v') w'):
  if Region.wanted o (yielded ops a.tmps)=true then Oper.wp P o a w K Q else E:=by
 have hw:Region.wanted o (yielded ops a.tmps)=true:=by simp[Region.wanted,hg]
 rw[zp hw];unfold Oper.wp;simp[execOp,hop,resolve,invoke,builtin,hx,hy,hr,Result.andThen];exact hK
theorem qsN{arr:Array Value}{p m j:Nat}{v:Value}(h:((arr.toList.drop p).take m)[j]?=some v):arr[p+j]?=some v∧j<m:=by
 rw[zF]at h;split at h
 ·rw[zA,zH]at h;exact⟨h,‹_›⟩
 ·cases h
theorem cell_of_heap{w:World}{b:Nat}{arr:Array Value}{tb:TypeId}(hb:w.heap[b]?=some (.cells arr tb (0,0))){x:Nat}{v:Value}(h:arr[x]?=some v):w.cell? ⟨b,x,none⟩=some v:=by
 simp[World.cell?,hb,h]
theorem Record.e_fl(xs:List Record):xs.map Record.e=fl (xs.map fun r=>r.e.map D.unV):=by
 simp only[fl,List.map_map];rfl
set_option maxHeartbeats 4000000 in
set_option maxRecDepth 1000000 in
theorem qLa(b off n cap i j:Nat)(arr:Array Value)(tb:TypeId)(w:World)(hb:w.heap[b]?=some (.cells arr tb (0,0)))(hn:n≤cap)(hfit:off+cap*3≤arr.size)(hij:i<j)(hj:j≤n)
  (h1:∀x v,off≤x→x<off+n*3→arr[x]?=some v→v.oneCell'=true):
  Calls prog 261 #[.slice (some ⟨b,off,none⟩) n cap,.int .i64 i,.int .i64 j] w fun e w'=>e=.returned (.slice (some ⟨b,off,none⟩) (i+(n-j)) cap)∧
   ∃zs:List Value,zs.length=(n-(i+(n-j)))*3∧w'=(w.drew.setRow b (laid arr (off+i*3) ((arr.toList.drop (off+j*3)).take ((n-j)*3)))).setRow b (laid (laid arr (off+i*3) ((arr.toList.drop (off+j*3)).take ((n-j)*3))) (off+(i+(n-j))*3) zs):=by
 obtain⟨news,hnews⟩:∃news,news=(arr.toList.drop (off+j*3)).take ((n-j)*3):=⟨_,rfl⟩
 have hnl:news.length=(n-j)*3:=by rw[hnews];simp;omega
 have hn1:∀u∈news,u.oneCell'=true:=by
  intro u hu;obtain⟨x,hx⟩:=zak.1 hu;rw[hnews]at hx;obtain⟨h2,h3⟩:=qsN hx;exact h1 _ u (by omega) (by omega) h2
 rw[←hnews];obtain⟨A1,hA1⟩:∃A1,A1=laid arr (off+i*3) news:=⟨_,rfl⟩
 have hs1:A1.size=arr.size:=by rw[hA1];exact qc4 (by omega)
 obtain⟨W1,hW1⟩:∃W1,W1=w.drew.setRow b A1:=⟨_,rfl⟩
 have hb1:W1.heap[b]?=some (.cells A1 tb (0,0)):=by rw[hW1];exact setRow_heap w.drew b arr A1 tb (0,0) hb
 obtain⟨zs,hzl,hclr⟩:=qoQ (P:=prog) W1 34 159 0 _ (by kernel_rfl) (by rfl) b (off+(i+(n-j))*3) (n-(i+(n-j))) (cap-(i+(n-j))) A1 tb hb1 (by show off+(i+(n-j))*3+(n-(i+(n-j)))*3≤A1.size;omega) (by decide);rw[zo (by omega)]at hclr;obtain⟨W2,hW2⟩:∃W2,W2=W1.setRow b (laid A1 (off+(i+(n-j))*3) zs):=⟨_,rfl⟩
 rw[←hW2]at hclr;have hsz:(prog.info? 159).map (·.size)=some 3:=by kernel_rfl
 have hun:prog.underlying 34=some (.slice 159):=by kernel_rfl
 have hap:∀ty,(Builtin.append_ #[34,34] ty #[.slice (some ⟨b,off,none⟩) i cap,.slice (if cap=j then some ⟨b,off,none⟩ else some ⟨b,off+j*3,none⟩) (n-j) (cap-j)]).run prog w.drew=.ok (.slice (some ⟨b,off,none⟩) (i+(n-j)) cap) W1:=by
  intro ty;cases hi:prog.info? 159 with
  | none=>rw[hi]at hsz;cases hsz
  | some i0=>
   rw[hi]at hsz;have h5:i0.size=3:=by simpa using hsz
   have key:∀ad:Addr,(∀x u,news[x]?=some u→w.drew.cell? (ad.add x)=some u)→(Builtin.append_ #[34,34] ty #[.slice (some ⟨b,off,none⟩) i cap,.slice (some ad) (n-j) (cap-j)]).run prog w.drew=.ok (.slice (some ⟨b,off,none⟩) (i+(n-j)) cap) W1:=by
    intro ad had;have:=qiP (P:=prog) (t:=34) (ty:=ty) hun hi w.drew b off i cap arr tb hb ad (n-j) (cap-j) news (by rw[hnl,h5]) had hn1 (by omega) (by rw[h5];omega);rw[this,hW1,hA1,h5];rfl
   split
   ·refine key _ fun x u hx=>?_
    have h0:news.length=0:=by rw[hnl];have:n-j=0:=(by omega);rw[this]
    rw[List.length_eq_zero_iff.1 h0]at hx;simp at hx
   ·refine key _ fun x u hx=>?_
    rw[hnews]at hx;obtain⟨h2,_⟩:=qsN hx;rw[Addr.add_lit];exact cell_of_heap (w:=w.drew) hb h2
 have X:Aside (W2=(w.drew.setRow b A1).setRow b (laid A1 (off+(i+(n-j))*3) zs)):=by rw[hW2,hW1];trivial
 have hLlt:i+(n-j)<n:=by omega
 have hic:i≤cap:=by omega
 have hjc:j≤cap:=by omega
 have mixed:prog.follows .mixedOrders=true:=by kernel_rfl
 clear hW1 hW2 hb1 hb hnews hnl hn1 hs1 hsz hun h1
 go_enter func261,Tryz.ntmps261
 go_wp2_with fail
 go_region_law_o (refine qK9 rfl (.tmp 22) (.tmp 25) 34 34 rfl _ _ (by simp[Act.eval,Act.put]) (by simp[Act.eval,Act.put]) (hap _) ?_)
 go_wp2
 all_goals (go_ret;exact⟨rfl,zs,hzl,by rw[←hA1];exact X⟩)
theorem News.e_fl(xs:List News):xs.map News.e=fl (xs.map fun r=>r.e.map D.unV):=by
 simp only[fl,List.map_map];rfl
theorem qLb(es:List (List Value))(i j:Nat)(hij:i<j)(hj:j≤es.length):RetG prog 261 [.one (.gv 3 (fl es) none),.one (.ro (I i)),.one (.ro (I j))] [.one (.sl 3 (fl (es.take i++es.drop j)))]:=by
 rintro w vs ω ⟨hg,hn,ha⟩ htd;obtain⟨y,hy,hy2⟩:=ha 0 _ rfl;obtain⟨u1,hu1,hu12⟩:=ha 1 _ rfl;obtain⟨u2,hu2,hu22⟩:=ha 2 _ rfl;have e1:u1=.int .i64 i:=Rep.eq_v hu12;have e2:u2=.int .i64 j:=Rep.eq_v hu22;subst e1;subst e2;have hvs:=args3 hn hy hu1 hu2;subst hvs;rcases hg.row hy2 with⟨rfl,_⟩ | ⟨b,off,cap,arr,tb,hω,rfl,hr⟩
 ·simp at hj;omega
 have hown:ω b≠.imm:=by rw[hω];simp
 have hroom:=hr.room;have hfit:=hr.fit;have h1:∀x v,off≤x→x<off+es.length*3→arr[x]?=some v→v.oneCell'=true:=by
  intro x v hx1 hx2 hv;have hlt:(x-off) / 3<es.length:=by omega
  have he:=zu hlt;have hlen:=hr.len _ (zax hlt);have hlt2:(x-off) % 3<(es[(x-off) / 3]).length:=by omega
  have:=hr.cell _ _ _ _ he (zu hlt2);rw[show off+(x-off) / 3*3+(x-off) % 3=x by omega,hv]at this;rw[zx this];exact hr.one _ (zax hlt) _ (zax hlt2)
 refine (qLa b off es.length cap i j arr tb w hr.heap hroom hfit hij hj h1).mono ?_;rintro e w' ⟨rfl,zs,hzs,rfl⟩;obtain⟨news,hnews⟩:∃news,news=(arr.toList.drop (off+j*3)).take ((es.length-j)*3):=⟨_,rfl⟩
 rw[←hnews];have hnl:news.length=(es.length-j)*3:=by rw[hnews];simp;omega
 have hl1:off+i*3+news.length≤arr.size:=by omega
 have hs1:=qc4 hl1;have hl2:off+(i+(es.length-j))*3+zs.length≤(laid arr (off+i*3) news).size:=by omega
 have hlen':(es.take i++es.drop j).length=i+(es.length-j):=by simp;omega
 have hL:LeftRow w ((w.drew.setRow b (laid arr (off+i*3) news)).setRow b (laid (laid arr (off+i*3) news) (off+(i+(es.length-j))*3) zs)) (fun b=>ω b≠.imm) 3 (es.take i++es.drop j) (.slice (some ⟨b,off,none⟩) (i+(es.length-j)) cap):=by
  refine⟨qqB hown _ _,.inr ⟨b,off,cap,_,tb,.inl hown,by rw[hlen'],?_,by omega,by rw[qc4 hl2,hs1];exact hfit,?_,?_,?_⟩⟩
  ·exact setRow_heap _ b _ _ tb (0,0) (setRow_heap w.drew b arr _ tb (0,0) hr.heap)
  ·intro e he;rcases zaz.1 he with h | h
   ·exact hr.len e (zbh h)
   ·exact hr.len e (zbn h)
  ·intro e he;rcases zaz.1 he with h | h
   ·exact hr.one e (zbh h)
   ·exact hr.one e (zbn h)
  ·intro x y e v hx hv;have hxl:=(zk.1 hx).1;rw[hlen']at hxl;have hy:y<3:=by
    have h2:=(zk.1 hv).1;have:e.length=3:=by
     have:=zw hx;rcases zaz.1 this with h | h
     ·exact hr.len e (zbh h)
     ·exact hr.len e (zbn h)
    omega
   rw[qb6 hl2,zo (by omega),qb6 hl1];by_cases hxi:x<i
   ·rw[zo (by omega)];refine hr.cell x y e v ?_ hv;rwa[zbg (by simp;omega),zF,zp hxi]at hx
   ·rw[zp (by omega),hnews,zF,zp (by omega),zA,zH];have:(es.take i).length=i:=by simp;omega
    rw[zas (by omega),this,zA]at hx;have:=hr.cell (j+(x-i)) y e v hx hv;rw[←this]
    congr 1
    omega
 obtain⟨ω',h2,h3,h4⟩:=hL.res;refine⟨_,rfl,hL.bel.full htd,ω',h2,h3,qqA ?_,h4⟩;intro i' j' ga k es0 es' hga hc
 match i' with
 | 0=>simp at hga;subst hga;simp only[GA.cell]at hc;split at hc<;>simp at hc
 | 1=>simp at hga;subst hga;simp only[GA.cell]at hc;split at hc<;>simp at hc
 | 2=>simp at hga;subst hga;simp only[GA.cell]at hc;split at hc<;>simp at hc
 | _+3=>simp at hga
theorem qLc(xs:List News)(i j:Nat)(hij:i<j)(hj:j≤xs.length):RetG prog 261 [.one (.gv 3 (xs.map News.e) none),.one (.ro (I i)),.one (.ro (I j))] [.one (.sl 3 ((xs.take i++xs.drop j).map News.e))]:=by
 have:=qLb (xs.map fun r=>r.e.map D.unV) i j hij (by simpa using hj);rw[News.e_fl,News.e_fl];simpa using this
end Go.Proofs.YtdkobdhckkjmeaaGreat
namespace Go.Proofs.YtdkobdhckkjmeaaGreat
open Go.Sx Go.RowKit Go.Proofs.Tryz
def qbz(w:Nat):List Pick:=[⟨1,w,0⟩,⟨3,w,0⟩,⟨2,w,0⟩,⟨7,w,0⟩]
def twoOf(a b:Nat):List Pick:=if a=b then [] else [⟨4,a,b⟩,⟨5,a,b⟩]
def qb0(n:Nat):List Pick:=(List.range n).flatMap qbz
def qcY(a n:Nat):List Pick:=(List.range n).flatMap (twoOf a)
def qcb(m n:Nat):List Pick:=(List.range n).flatMap fun a=>qcY a m
def oneOf(e:Nat):List Pick:=[⟨6,e,0⟩]
def qd1(n:Nat):List Pick:=(List.range n).flatMap oneOf
def qaO(c:Cluster):List Pick:=qb0 (qaV c.graph.workers 0 4).toNat++qcb (qaV c.graph.workers 0 4).toNat (qaV c.graph.workers 0 4).toNat++qd1 4
theorem qsO(n:Nat):qb0 (n+1)=qb0 n++qbz n:=by simp[qb0,List.range_succ]
theorem qsP(a n:Nat):qcY a (n+1)=qcY a n++twoOf a n:=by simp[qcY,List.range_succ]
theorem qsQ(m n:Nat):qcb m (n+1)=qcb m n++qcY n m:=by simp[qcb,List.range_succ]
theorem qsR(n:Nat):qd1 (n+1)=qd1 n++[⟨6,n,0⟩]:=by simp[qd1,List.range_succ,oneOf]
theorem qid(n:Nat):(qb0 n).length≤n*4:=by
 have h:=qgl qbz 4 (fun _=>by simp[qbz]) (List.range n);rwa[zct]at h
theorem qnh(a n:Nat):(qcY a n).length≤n*2:=by
 have h:=qgl (twoOf a) 2 (fun b=>by unfold twoOf;split<;>simp) (List.range n);rwa[zct]at h
theorem qie(m n:Nat):(qcb m n).length≤n*(m*2):=by
 have h:=qgl (fun a=>qcY a m) (m*2) (fun a=>qnh a m) (List.range n);rwa[zct]at h
theorem qni(n:Nat):(qd1 n).length≤n*1:=by
 have h:=qgl oneOf 1 (fun _=>by simp[oneOf]) (List.range n);rwa[zct]at h
theorem qnj(n:Int):∃k:Nat,qaV n 0 4=k∧k≤4:=by
 refine⟨(qaV n 0 4).toNat,?_,?_⟩<;>(unfold qaV;simp only[show ¬(4:Int)<0 by omega,zci];split<;>(try split)<;>omega)
theorem mulLe(a b:Nat)(ha:a≤4)(hb:b≤4):a*(b*2)≤32:=by
 have:=Nat.mul_le_mul ha (zB 2 hb);omega
theorem qnk(c:Cluster):(qaO c).length≤100:=by
 obtain⟨k,hk,h4⟩:=qnj c.graph.workers;unfold qaO;rw[hk];have a:=qid k;have b:=qie k k;have e:=qni 4;have m:=mulLe k k h4 h4;simp only[zab,zae];omega
theorem qLd(c:Cluster):Rt 211 [.agg c.e] [.one (.sl 3 ((qaO c).map Pick.e))]:=by
 have b:=qmj c.graph.workers 0 4;obtain⟨k,hk,h4⟩:=qnj c.graph.workers;unfold qaO;rw[hk]at b ⊢;have la:=qid k;have lc:=qie k k;have m:=mulLe k k h4 h4;have l1:=fun (w:Nat) (hw:w<k)=>qao (P:=prog) (c:=(qaa f211 1)) (qaf 2) 4 (fun i:Nat=>qdS k w i ((qb0 w).map Pick.e++((qbz w).take i).map Pick.e)) (fun i hi=>by
  have h1:=qid w
  match i,hi with
  | 0,_=>exact tr_to (qdS k w (((0:Nat):Int)+1)) (qjv ⟨rfl,by omega,by decide,rfl,by simp[qbz];omega,by simp[qbz];omega,qae Pick.e Pick.flat [⟨1,w,0⟩],⟨by omega,by omega⟩,trivial⟩) (by simp[qbz,Pick.e])
  | 1,_=>exact tr_to (qdS k w (((1:Nat):Int)+1)) (qjv ⟨rfl,by omega,by decide,rfl,by simp[qbz];omega,by simp[qbz];omega,qae Pick.e Pick.flat [⟨3,w,0⟩],⟨by omega,by omega⟩,trivial⟩) (by simp[qbz,Pick.e])
  | 2,_=>exact tr_to (qdS k w (((2:Nat):Int)+1)) (qjv ⟨rfl,by omega,by decide,rfl,by simp[qbz];omega,by simp[qbz];omega,qae Pick.e Pick.flat [⟨2,w,0⟩],⟨by omega,by omega⟩,trivial⟩) (by simp[qbz,Pick.e])
  | 3,_=>exact tr_to (qdS k w (((3:Nat):Int)+1)) (qjv ⟨rfl,by omega,by decide,rfl,by simp[qbz];omega,by simp[qbz];omega,qae Pick.e Pick.flat [⟨7,w,0⟩],⟨by omega,by omega⟩,trivial⟩) (by simp[qbz,Pick.e])) (qwn ⟨rfl,trivial⟩)
 have l0:=qao (P:=prog) (c:=(qaa f211 0)) (qaf 0) k (fun i:Nat=>qhv k i ((qb0 i).map Pick.e)) (fun i hi=>by
  have h:=l1 i hi;rw[qsO,zU];simp only[List.take_zero,List.map_nil,zaa]at h;exact qwo ⟨dT (by omega),h,⟨by omega,by omega⟩,trivial⟩) (qwp ⟨dF (by omega),trivial⟩)
 have l3:=fun (a:Nat) (ha:a<k)=>qao (P:=prog) (c:=(qaa f211 3)) (qaf 6) k (fun i:Nat=>qe4 k a i ((qb0 k++qcb k a++qcY a i).map Pick.e)) (fun i hi=>by
  have h1:=qnh a i;have h2:=qie k a;have h3:=mulLe a k (by omega) h4;rw[qsP,←zba,zU (l₂:=twoOf a i)];by_cases hab:a=i
  ·have e:(twoOf a i).map Pick.e=[]:=by simp[twoOf,hab]
   rw[e,zaa];exact qwr ⟨dT (by omega),by simp[hab],⟨by omega,by omega⟩,trivial⟩
  ·have e:(twoOf a i).map Pick.e=[[I 4,I a,I i],[I 5,I a,I i]]:=by simp[twoOf,hab,Pick.e]
   rw[e];have hf:Flat [[I 4,I a,I i],[I 5,I a,I i]]:=by rw[←e];exact qae Pick.e Pick.flat _
   exact qwq ⟨dT (by omega),by simp;omega,by simp;omega,by simp;omega,hf,⟨by omega,by omega⟩,trivial⟩) (qws ⟨dF (by omega),trivial⟩)
 have l2:=qao (P:=prog) (c:=(qaa f211 2)) (qaf 4) k (fun i:Nat=>qhw k i ((qb0 k++qcb k i).map Pick.e)) (fun i hi=>by
  have h:=l3 i hi;rw[qsQ,←zba];simp only[qcY,zcq,zcm,zaa]at h;exact qwt ⟨dT (by omega),h,⟨by omega,by omega⟩,trivial⟩) (qwu ⟨dF (by omega),trivial⟩)
 have l4:=qao (P:=prog) (c:=(qaa f211 4)) (qaf 8) 4 (fun i:Nat=>qhx i ((qb0 k++qcb k k++qd1 i).map Pick.e)) (fun i hi=>by
  have h1:=qni i;rw[qsR,←zba,zU (l₂:=[_])];exact qwv ⟨dT (by omega),by simp;omega,by simp;omega,qae Pick.e Pick.flat [⟨6,i,0⟩],⟨by omega,by omega⟩,trivial⟩) (qww ⟨dF (by omega),trivial⟩)
 simp only[qcb,zcq,zcm,zaa]at l2;simp only[qd1,zcq,zcm,zaa]at l4;rw[zae];exact qwx ⟨b,l0,l2,l4,trivial⟩
end Go.Proofs.YtdkobdhckkjmeaaGreat
