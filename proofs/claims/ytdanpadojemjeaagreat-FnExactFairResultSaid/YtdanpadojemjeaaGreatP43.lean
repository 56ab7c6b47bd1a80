/- The copies of nodes, graphs, links, workers and clusters: what program and reference hand back is what came in. -/
import Derived.Test.YtdanpadojemjeaaGreatP9
import Derived.Test.YtdanpadojemjeaaGreatGV
import Derived.Test.YtdanpadojemjeaaGreatP28
import Derived.Test.YtdanpadojemjeaaGreatQ1
set_option linter.unusedVariables false
set_option linter.unusedSimpArgs false
namespace Go.Proofs.YtdanpadojemjeaaGreat
open Go.Sx Go.RowKit Go.Proofs.Tryz
theorem flatI(xs:List Int):Flat (xs.map eI):=qae eI (fun _ _ hd=>⟨_,List.mem_singleton.1 hd⟩) xs
theorem flatB(xs:List Bool):Flat (xs.map eB):=qae eB (fun _ _ hd=>⟨_,List.mem_singleton.1 hd⟩) xs
theorem Done.flat(r:Done):∀d∈r.e,∃x,d=.v x:=by
 intro d hd
 simp only[Done.e,zL,zbu,or_false]at hd
 rcases hd with rfl | rfl<;>exact⟨_,rfl⟩
theorem News.flat(r:News):∀d∈r.e,∃x,d=.v x:=by
 intro d hd
 simp only[News.e,zL,zbu,or_false]at hd
 rcases hd with rfl | rfl | rfl<;>exact⟨_,rfl⟩
theorem Token.flat(r:Token):∀d∈r.e,∃x,d=.v x:=by
 intro d hd
 simp only[Token.e,zL,zbu,or_false]at hd
 rcases hd with rfl | rfl | rfl | rfl | rfl<;>exact⟨_,rfl⟩
theorem qfU{α:Type}{f:α→List D}{xs:List α}{i:Nat}{a:α}(h:xs[i]?=some a):(xs.take (i+1)).map f=(xs.take i).map f++[f a]:=by simp[zbe,h]
theorem nl(l:List (List D)){k m:Nat}(h:l.length*k≤m):(([]:List (List D)).length+l.length)*k≤m:=by simpa using h
theorem nl1(l:List (List D)){m:Nat}(h:l.length≤m):([]:List (List D)).length+l.length≤m:=by simpa using h
theorem Graph.node_sz1{g:Graph}(h:g.sz≤8388608){x:Node}(hx:x∈g.nodes):x.sz≤8388608:=qeB (sz:=Node.sz) (xs:=g.nodes) (m:=8388608) (by simp only[Graph.sz]at h;omega) hx
theorem Graph.nodes_le1{g:Graph}(h:g.sz≤8388608):g.nodes.length≤8388608:=by simp only[Graph.sz,szS]at h;omega
theorem Cluster.worker_sz1{c:Cluster}(h:c.sz≤8388608){w:Worker}(hw:w∈c.workers):w.sz≤8388608:=qeB (sz:=Worker.sz) (xs:=c.workers) (m:=8388608) (by simp only[Cluster.sz]at h;omega) hw
theorem Cluster.link_sz1{c:Cluster}(h:c.sz≤8388608){w:Link}(hw:w∈c.links):w.sz≤8388608:=qeB (sz:=Link.sz) (xs:=c.links) (m:=8388608) (by simp only[Cluster.sz]at h;omega) hw
theorem Cluster.graph_sz1{c:Cluster}(h:c.sz≤8388608):c.graph.sz≤8388608:=by simp only[Cluster.sz]at h;omega
theorem qzl(x:Node)(h:x.sz≤8388608):Rt 194 [.agg x.e] [.agg x.e]:=by
 simp only[Node.sz]at h
 exact qx0 ⟨nl _ (by simp;omega),nl1 _ (by simp;omega),flatI _,trivial⟩
theorem qim(x:Link)(h:x.sz≤8388608):Rt 121 [.agg x.e] [.agg x.e]:=
 qx4 ⟨qgP x.queue h,trivial⟩
theorem qin(x:Link)(h:x.sz≤8388608):Rt 186 [.agg x.e] [.agg x.e]:=by
 simp only[Link.sz]at h
 exact qyb ⟨nl _ (by simp;omega),nl1 _ (by simp;omega),qae _ Record.flat _,trivial⟩
theorem qfV(x:Worker)(h:x.sz≤8388608):Rt 120 [.agg x.e] [.agg x.e]:=by
 simp only[Worker.sz]at h
 exact qx5 ⟨qgP x.queue (by omega),qgP x.staged (by omega),qgP x.inputs (by omega),qdT x.cells (by omega),nl _ (by simp;omega),nl1 _ (by simp;omega),flatI _,nl _ (by simp;omega),nl1 _ (by simp;omega),flatB _,nl _ (by simp;omega),nl1 _ (by simp;omega),flatB _,nl _ (by simp;omega),nl1 _ (by simp;omega),qae _ Done.flat _,trivial⟩
theorem qzm(x:Worker)(h:x.sz≤8388608):Rt 185 [.agg x.e] [.agg x.e]:=by
 simp only[Worker.sz]at h
 exact qyf ⟨nl _ (by simp;omega),nl1 _ (by simp;omega),qae _ Record.flat _,nl _ (by simp;omega),nl1 _ (by simp;omega),qae _ Record.flat _,nl _ (by simp;omega),nl1 _ (by simp;omega),qae _ Record.flat _,nl _ (by simp;omega),nl1 _ (by simp;omega),qae _ Cell.flat _,nl _ (by simp;omega),nl1 _ (by simp;omega),flatI _,nl _ (by simp;omega),nl1 _ (by simp;omega),flatB _,nl _ (by simp;omega),nl1 _ (by simp;omega),flatB _,nl _ (by simp;omega),nl1 _ (by simp;omega),qae _ Done.flat _,trivial⟩
theorem qo3(g:Graph)(hg:g.sz≤8388608):Rt 119 [.agg g.e] [.agg g.e]:=by
 have hn:=Graph.nodes_le1 hg
 have l:=qan (P:=prog) (c:=(qaa f119 0)) (qaf 0) g.nodes.length (fun i:Nat=>qgT (g.nodes.map Node.e) i ((g.nodes.take i).map Node.e) g.workers g.cap 0 0) (fun i hi=>by
  obtain⟨a,ha⟩:=qai hi
  rw[qfU ha]
  exact qx1 ⟨lt1 hi,lt0,lt2 hi,qac Node.e ha,qzl a (Graph.node_sz1 hg (qar ha)),by simp;omega,by simp;omega,up1 hi hn,trivial⟩) (qx2 ⟨ge1,trivial⟩)
 rw[zC]at l
 exact qx3 ⟨l,trivial⟩
theorem qo4(g:Graph)(hg:g.sz≤8388608):Rt 165 [.agg g.e] [.agg g.e]:=by
 have hn:=Graph.nodes_le1 hg
 have l:=qan (P:=prog) (c:=(qaa f165 0)) (qaf 0) g.nodes.length (fun i:Nat=>qgW i ((g.nodes.take i).map Node.e) g.workers g.cap 0 0 (g.nodes.map Node.e) g.workers g.cap) (fun i hi=>by
  obtain⟨a,ha⟩:=qai hi
  have hs:=Graph.node_sz1 hg (qar ha)
  simp only[Node.sz]at hs
  rw[qfU ha]
  exact qyc ⟨lt1 hi,lt0,lt2 hi,qac Node.e ha,nl _ (by simp;omega),nl1 _ (by simp;omega),flatI _,by simp;omega,by simp;omega,up1 hi hn,trivial⟩) (qyd ⟨ge1,trivial⟩)
 rw[zC]at l
 exact qye ⟨l,trivial⟩
theorem qcX(c:Cluster)(hc:c.sz≤8388608):Rt 61 [.agg c.e] [.agg c.e]:=by
 have hw:=Cluster.wlen_le hc
 have hl:=Cluster.llen_le hc
 have ht:c.tokens.length≤8388608:=by simp only[Cluster.sz,szS]at hc;omega
 have hx:c.news.length≤8388608:=by simp only[Cluster.sz,szS]at hc;omega
 have l0:=qan (P:=prog) (c:=(qaa f61 0)) (qaf 0) c.workers.length (fun i:Nat=>qgU (c.workers.map Worker.e) i (c.graph.nodes.map Node.e) c.graph.workers c.graph.cap ((c.workers.take i).map Worker.e) (c.tokens.map Token.e) (c.news.map News.e) 0 0 (c.graph.nodes.map Node.e) c.graph.workers c.graph.cap (c.workers.map Worker.e) (c.links.map Link.e) (c.tokens.map Token.e) (c.news.map News.e)) (fun i hi=>by
  obtain⟨a,ha⟩:=qai hi
  rw[qfU ha]
  exact qx6 ⟨lt1 hi,lt0,lt2 hi,qac Worker.e ha,qfV a (Cluster.worker_sz1 hc (qar ha)),by simp;omega,by simp;omega,up1 hi hw,trivial⟩) (qx7 ⟨ge1,trivial⟩)
 have l1:=qan (P:=prog) (c:=(qaa f61 1)) (qaf 2) c.links.length (fun i:Nat=>qgV (c.links.map Link.e) i (c.graph.nodes.map Node.e) c.graph.workers c.graph.cap (c.workers.map Worker.e) ((c.links.take i).map Link.e) (c.tokens.map Token.e) (c.news.map News.e) 0 0) (fun i hi=>by
  obtain⟨a,ha⟩:=qai hi
  rw[qfU ha]
  exact qx8 ⟨lt1 hi,lt0,lt2 hi,qac Link.e ha,qim a (Cluster.link_sz1 hc (qar ha)),by simp;omega,by simp;omega,up1 hi hl,trivial⟩) (qx9 ⟨ge1,trivial⟩)
 rw[zC]at l0 l1
 exact qya ⟨qo3 c.graph (Cluster.graph_sz1 hc),nl _ (by simp;omega),nl1 _ (by simp;omega),qae _ Token.flat _,nl _ (by simp;omega),nl1 _ (by simp;omega),qae _ News.flat _,l0,l1,trivial⟩
theorem qzn(c:Cluster)(hc:c.sz≤8388608):Rt 112 [.agg c.e] [.agg c.e]:=by
 have hw:=Cluster.wlen_le hc
 have hl:=Cluster.llen_le hc
 have ht:c.tokens.length≤8388608:=by simp only[Cluster.sz,szS]at hc;omega
 have hx:c.news.length≤8388608:=by simp only[Cluster.sz,szS]at hc;omega
 have l0:=qan (P:=prog) (c:=(qaa f112 0)) (qaf 0) c.workers.length (fun i:Nat=>qgX i (c.graph.nodes.map Node.e) c.graph.workers c.graph.cap ((c.workers.take i).map Worker.e) (c.tokens.map Token.e) (c.news.map News.e) 0 0 (c.graph.nodes.map Node.e) c.graph.workers c.graph.cap (c.workers.map Worker.e) (c.links.map Link.e) (c.tokens.map Token.e) (c.news.map News.e)) (fun i hi=>by
  obtain⟨a,ha⟩:=qai hi
  rw[qfU ha]
  exact qyg ⟨lt1 hi,lt0,lt2 hi,qac Worker.e ha,qzm a (Cluster.worker_sz1 hc (qar ha)),by simp;omega,by simp;omega,up1 hi hw,trivial⟩) (qyh ⟨ge1,trivial⟩)
 have l1:=qan (P:=prog) (c:=(qaa f112 1)) (qaf 2) c.links.length (fun i:Nat=>qgY i (c.graph.nodes.map Node.e) c.graph.workers c.graph.cap (c.workers.map Worker.e) ((c.links.take i).map Link.e) (c.tokens.map Token.e) (c.news.map News.e) 0 0 (c.graph.nodes.map Node.e) c.graph.workers c.graph.cap (c.workers.map Worker.e) (c.links.map Link.e) (c.tokens.map Token.e) (c.news.map News.e)) (fun i hi=>by
  obtain⟨a,ha⟩:=qai hi
  rw[qfU ha]
  exact qyi ⟨lt1 hi,lt0,lt2 hi,qac Link.e ha,qin a (Cluster.link_sz1 hc (qar ha)),by simp;omega,by simp;omega,up1 hi hl,trivial⟩) (qyj ⟨ge1,trivial⟩)
 rw[zC]at l0 l1
 exact qyk ⟨qo4 c.graph (Cluster.graph_sz1 hc),nl _ (by simp;omega),nl1 _ (by simp;omega),qae _ Token.flat _,nl _ (by simp;omega),nl1 _ (by simp;omega),qae _ News.flat _,l0,l1,trivial⟩
end Go.Proofs.YtdanpadojemjeaaGreat
namespace Go.Proofs.YtdanpadojemjeaaGreat
open Go.Sx Go.RowKit Go.Proofs.Tryz
def runD(c:Cluster)(b:Bool):List D:=[.sl 4 (c.graph.nodes.map Node.e),I c.graph.workers,I c.graph.cap,.sl 8 (c.workers.map Worker.e),.sl 6 (c.links.map Link.e),.sl 5 (c.tokens.map Token.e),.sl 3 (c.news.map News.e),B b]
abbrev runE(c:Cluster):List D:=runD c (qah c)
theorem qiK(w:Worker)(e:Int)(r:Bool)(h:qbV w e=r)(hw:w.sz≤8388608):Rt 66 [.agg w.e,.one (I e)] [.one (B r)]:=h▸qzv w e hw
theorem qp5(c:Cluster)(hc:c.sz≤8388608)(hw:GotLe c):RetR prog 55 [.ro (.agg c.e)] (.new (runE c)):=
 qyl ⟨qzn c hc,qHh c hc hw,trivial⟩
theorem qls{α:Type}{f:α→List D}{xs:List α}{i:Nat}{a:α}:(xs.map f).set i (f a)=(xs.set i a).map f:=List.map_set.symm
theorem qbL{c:Cluster}{i:Int}{x:Worker}(h:wAt c i=some x):0≤i∧i<(↑(c.workers.map Worker.e).length:Int)∧(c.workers.map Worker.e)[i.toNat]?=some x.e:=by
 obtain⟨h1,h2,h3⟩:=qc0 h
 exact⟨h1,by rw[zb];omega,qad Worker.e h3⟩
theorem qb0{c:Cluster}{i:Int}{x:Worker}(h:wAt c i=some x)(hc:c.sz≤8388608):x.sz≤8388608:=Cluster.worker_sz1 hc (qar (qc0 h).2.2)
theorem qIc{l:List News}{i:Nat}(hi:i<l.length):([]++((l.map News.e).drop 0).take (((some (i:Int)).getD (↑(l.map News.e).length:Int)).toNat-0)++((l.map News.e).drop ((some ((i:Int)+1)).getD 0).toNat).take ((l.map News.e).length-((some ((i:Int)+1)).getD 0).toNat))=(cutAt l i).map News.e:=by
 have e1:((i:Int)+1).toNat=i+1:=by omega
 simp only[cutAt,zV,zae,Nat.sub_zero,zck,List.nil_append,e1,zU,zcr,List.map_drop]
 congr 1
 rw[zbk (by simp)]
theorem qp6{l:List News}{i:Nat}:((l.map News.e).drop ((some ((i:Int)+1)).getD 0).toNat).take ((l.map News.e).length-((some ((i:Int)+1)).getD 0).toNat)=(l.drop (i+1)).map News.e:=by
 have e1:((i:Int)+1).toNat=i+1:=by omega
 simp only[zV,e1,List.map_drop]
 rw[zbk (by simp)]
theorem qlt{c:Cluster}(h:qah c=true){i:Nat}{n:News}(hn:c.news[i]?=some n){w:Int}(hw:(n.dest==w)=true):∃x,wAt c w=some x:=by
 have hb:=qp0 h hn
 simp only[qbD,inR,zy,zX,zi]at hb
 have h2:=(qaY.1 h).2.1
 have e:=eq_of_beq hw
 exact qg9 (by omega) (by omega)
theorem qiL{α:Type}{f:α→List D}(h:∀a,∀d∈f a,∃x,d=.v x){l:List (List D)}{xs:List α}(hl:l=xs.map f):Flat l:=hl▸qae f h xs
theorem qp7{c:Cluster}{w:Int}{i:Nat}{n:News}{x:Worker}(h1:c.news.findIdx? (fun n=>n.dest==w)=some i)(hok:qah c=true)(hn:c.news[i]?=some n)(hx:wAt c w=some x):qbs c w=(setN (setW c w (hears x n)) (cutAt c.news i),true):=by
 unfold qbs
 simp only[h1,hok,zbb,hn,hx]
theorem qId(c:Cluster)(w:Int)(hc:c.sz≤8388608):RetR prog 56 [.ref (runE c) (runE (qbs c w).1),.ro (.one (I w))] (.vals [.one (B (qbs c w).2)]):=by
 have hl:=qfe hc
 have hok':=fun h=>qHS (c:=c) (w:=w) h
 cases hok:qah c with
 | false=>
  have e:qbs c w=(c,false):=by
   unfold qbs
   split<;>simp[hok]
  rw[e]
  simp only[runE,hok]
  cases hn:c.news with
  | nil=>
   have l:qaj prog (qaa f56 0) (qcW w 0 (c.graph.nodes.map Node.e) c.graph.workers c.graph.cap (c.workers.map Worker.e) (c.links.map Link.e) (c.tokens.map Token.e) (c.news.map News.e) false) (.exit 0) _:=.last (qaf 0) (qo0 ⟨by simp[hn],trivial⟩)
   exact qkT ⟨l,trivial⟩
  | cons a l=>
   have l:qaj prog (qaa f56 0) (qcW w 0 (c.graph.nodes.map Node.e) c.graph.workers c.graph.cap (c.workers.map Worker.e) (c.links.map Link.e) (c.tokens.map Token.e) (c.news.map News.e) false) (.exit 0) _:=.last (qaf 0) (qyp ⟨dT (by simp[hn]<;>omega),rfl,trivial⟩)
   exact qkT ⟨l,trivial⟩
 | true=>
  have hok':=hok' hok
  have l:=qaL (P:=prog) (c:=(qaa f56 0)) c.news (fun n=>n.dest==w) (fun i=>qcW w i (c.graph.nodes.map Node.e) c.graph.workers c.graph.cap (c.workers.map Worker.e) (c.links.map Link.e) (c.tokens.map Token.e) (c.news.map News.e) true)
   (X:=fun i n=>match wAt c w with
    | some x=>qil true (c.graph.nodes.map Node.e) c.graph.workers c.graph.cap ((setW c w (hears x n)).workers.map Worker.e) (c.links.map Link.e) (c.tokens.map Token.e) ((cutAt c.news i).map News.e) true
    | none=>⟨[],[]⟩) qat (qaf 0)
   (fun i a ha h=>qym ⟨lt1 (lt_of ha),rfl,lt0,lt2 (lt_of ha),qac News.e ha,by simp only[bne,h];rfl,up1 (lt_of ha) hl,trivial⟩)
   (fun i a ha h=>by
    obtain⟨x,hx⟩:=qlt hok ha h
    have hi:=lt_of ha
    obtain⟨w0,w1,w2⟩:=qbL hx
    have hs:=qb0 hx hc
    simp only[hx]
    rw[←qIc hi]
    cases hd:qbV x a.epoch with
    | true=>
     rw[show hears x a=x by unfold hears;rw[hd];rfl,qfg hx]
     exact qyo ⟨lt1 hi,rfl,lt0,lt2 hi,qac News.e ha,by simp only[bne,h];rfl,by simp,by simp,by simp;omega,by simp;omega,by simp;omega,qiL (xs:=c.news.take i) News.flat (by simp),up1 hi hl,by simp;omega,by simp;omega,by simp,by simp;omega,by simp;omega,qiL (xs:=c.news.drop (i+1)) News.flat qp6,w0,w1,w2,qkV x a.epoch true hd hs,rfl,trivial⟩
    | false=>
     have hdl:x.dones.length≤8388608:=by simp only[Worker.sz]at hs;omega
     have e2:(setW c w (hears x a)).workers.map Worker.e=(c.workers.map Worker.e).set w.toNat (told x a.epoch a.capped).e:=by
      rw[show hears x a=told x a.epoch a.capped by unfold hears;rw[hd];rfl]
      exact qls.symm
     rw[e2]
     have e3:(told x a.epoch a.capped).e=[.sl 5 (x.queue.map Record.e),.sl 5 (x.staged.map Record.e),.sl 5 (x.inputs.map Record.e),.sl 4 (x.cells.map Cell.e),.sl 1 (x.sums.map eI),.sl 1 (x.black.map eB),.sl 1 (x.caps.map eB),.sl 2 (x.dones.map Done.e++[[I a.epoch,B a.capped]])]:=by
      simp only[told,Worker.e,zU];rfl
     rw[e3]
     exact qyn ⟨lt1 hi,rfl,lt0,lt2 hi,qac News.e ha,by simp only[bne,h];rfl,by simp,by simp,by simp;omega,by simp;omega,by simp;omega,qiL (xs:=c.news.take i) News.flat (by simp),up1 hi hl,by simp;omega,by simp;omega,by simp,by simp;omega,by simp;omega,qiL (xs:=c.news.drop (i+1)) News.flat qp6,w0,w1,w2,qkV x a.epoch false hd hs,rfl,w0,w1,w2,by simp;omega,by simp;omega,w2,rfl,qap (Done.flat ⟨a.epoch,a.capped⟩),rfl,rfl,rfl,rfl,rfl,rfl,rfl,rfl,rfl,rfl,rfl,w0,w1,w2,rfl,trivial⟩)
   (qo0 ⟨ge1,trivial⟩)
  rcases l with⟨_,h1,_,h2⟩ | ⟨i,a,ha,hp,_,h1,_,h2⟩
  ·have e:qbs c w=(c,false):=by unfold qbs;simp only[h1]
   rw[e]
   simp only[runE,hok]
   exact qkT ⟨h2,trivial⟩
  ·obtain⟨x,hx⟩:=qlt hok ha hp
   rw[qp7 h1 hok ha hx]at hok' ⊢
   simp only[hx]at h2
   simp only[runE,hok,hok']
   exact qyq ⟨h2,trivial⟩
theorem qIe(c:Cluster)(w:Int)(hc:c.sz≤8388608)(hw:GotLe c):Rt 14 [.agg c.e,.one (I w)] [.agg (qbs c w).1.e,.one (B (qbs c w).2)]:=by
 have hl:=qfe hc
 have cp:=qcX c hc
 have ix:=qzs c.news (fun n=>n.dest==w) 63 [.ptr [I w]] hl (by kernel_rfl) (fun x _=>qyr trivial)
 have ok:=qiF c hc hw
 unfold idxI at ix
 cases h1:c.news.findIdx? (fun n=>n.dest==w) with
 | none=>
  simp only[h1]at ix
  rw[show qbs c w=(c,false) by unfold qbs;simp only[h1]]
  exact qys ⟨cp,ix,dT (by omega),trivial⟩
 | some i=>
  simp only[h1]at ix
  cases hok:qah c with
  | false=>
   rw[hok]at ok
   rw[show qbs c w=(c,false) by unfold qbs;simp[h1,hok]]
   exact qyt ⟨cp,ix,dF (by omega),ok,rfl,trivial⟩
  | true=>
   rw[hok]at ok
   obtain⟨hi,hp,_⟩:=zai.1 h1
   have ha:c.news[i]?=some c.news[i]:=zu hi
   generalize c.news[i]=a at ha hp
   obtain⟨x,hx⟩:=qlt hok ha hp
   obtain⟨w0,w1,w2⟩:=qbL hx
   have hs:=qb0 hx hc
   rw[qp7 h1 hok ha hx]
   have dl:=qIb c.news i (i+1) (by omega) (by omega)
   rw[show (((i+1:Nat):Int))=(i:Int)+1 by omega]at dl
   cases hd:qbV x a.epoch with
   | true=>
    rw[show hears x a=x by unfold hears;rw[hd];rfl,qfg hx]
    exact qyv ⟨cp,ix,dF (by omega),ok,rfl,lt0,lt2 hi,qac News.e ha,up1 hi hl,dl,w0,w1,w2,qiK x a.epoch true hd hs,rfl,trivial⟩
   | false=>
    have hdl:x.dones.length≤8388608:=by simp only[Worker.sz]at hs;omega
    have e2:(setW c w (hears x a)).workers.map Worker.e=(c.workers.map Worker.e).set w.toNat (told x a.epoch a.capped).e:=by
     rw[show hears x a=told x a.epoch a.capped by unfold hears;rw[hd];rfl]
     exact qls.symm
    have e3:(told x a.epoch a.capped).e=[.sl 5 (x.queue.map Record.e),.sl 5 (x.staged.map Record.e),.sl 5 (x.inputs.map Record.e),.sl 4 (x.cells.map Cell.e),.sl 1 (x.sums.map eI),.sl 1 (x.black.map eB),.sl 1 (x.caps.map eB),.sl 2 (x.dones.map Done.e++[[I a.epoch,B a.capped]])]:=by
     simp only[told,Worker.e,zU];rfl
    have e4:(setN (setW c w (hears x a)) (cutAt c.news i)).e=[.sl 4 (c.graph.nodes.map Node.e),I c.graph.workers,I c.graph.cap,.sl 8 ((c.workers.map Worker.e).set w.toNat (told x a.epoch a.capped).e),.sl 6 (c.links.map Link.e),.sl 5 (c.tokens.map Token.e),.sl 3 ((cutAt c.news i).map News.e)]:=by
     rw[←e2];rfl
    rw[e4,e3]
    exact qyu ⟨cp,ix,dF (by omega),ok,rfl,lt0,lt2 hi,qac News.e ha,up1 hi hl,dl,w0,w1,w2,qiK x a.epoch false hd hs,rfl,w0,w1,w2,by simp;omega,by simp;omega,w2,rfl,qap (Done.flat ⟨a.epoch,a.capped⟩),rfl,rfl,rfl,rfl,rfl,rfl,rfl,rfl,w0,w1,w2,rfl,trivial⟩
end Go.Proofs.YtdanpadojemjeaaGreat
